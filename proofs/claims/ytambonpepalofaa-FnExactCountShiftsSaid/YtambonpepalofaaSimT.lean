/- The frame of a call as it ends. Conditions: none. -/
import Derived.Test.YtambonpepalofaaSimS
namespace Go.Sim
open Classical
set_option linter.unusedSimpArgs false
set_option linter.unusedVariables false
noncomputable section
def nOw:List PC→Nat
 | []=>0
 | .ow ..::r=>nOw r+1
 | _::r=>nOw r
inductive PCs (w:World) (W:Wit):Nat→List PC→List Value→Prop
 | nil {k}:PCs w W k [] []
 | im {k t y cs v vs}:CRi w (W.F (tg (tagOf t y))) [y] [v]→PCs w W k cs vs→PCs w W k (.im t y::cs) (v::vs)
 | ow {k t sz es cs v vs}:DetOK w W k ⟨.sh,t,.row sz es⟩ v→PCs w W (k+1) cs vs→PCs w W k (.ow t sz es::cs) (v::vs)
inductive ResR (w:World) (W:Wit):Nat→Res→List Value→Prop
 | nil {k}:ResR w W k [] []
 | agg {k cs us r vs}:PCs w W k cs us.toList→ResR w W (k+nOw cs) r vs→ResR w W k ((true,cs)::r) (.agg us::vs)
 | one {k c v r vs}:PCs w W k [c] [v]→ResR w W (k+nOw [c]) r vs→ResR w W k ((false,[c])::r) (v::vs)
section
variable {P:Program} {cfg:Cfg} {callF:FuncId→List Arg→Option (Res×List Out)} {B:Base} {st st':St} {a:Act} {w:World} {W:Wit} {o:Oper} {nt f:Nat} {ops:Array Oper}
theorem PCs.quiet {W':Wit} (hq:QuietD B st a w W st' W') {k:Nat} {cs:List PC} {vs:List Value} (h:PCs w W k cs vs):PCs w W' k cs vs:=by
 induction h with
 | nil=>exact .nil
 | im h1 _ ih=>exact .im (h1.mono fun b hb=>⟨hq.1.2.2.2 _ _ hb,rfl⟩) ih
 | ow h1 _ ih=>exact .ow (h1.step (fun t b hb=>⟨hq.1.2.2.2 _ _ hb,rfl⟩) fun b hb=>⟨hq.2 _ _ hb,rfl⟩) ih
theorem ResR.quiet {W':Wit} (hq:QuietD B st a w W st' W') {k:Nat} {r:Res} {vs:List Value} (h:ResR w W k r vs):ResR w W' k r vs:=by
 induction h with
 | nil=>exact .nil
 | agg h1 _ ih=>exact .agg (h1.quiet hq) ih
 | one h1 _ ih=>exact .one (h1.quiet hq) ih
theorem resCells_ok:∀(rs:List RV) (vs:List Value) {st st':St} {W:Wit} {ks:List (Option Nat)} {pc:List PC} (k:Nat),Rel B st a w W→RRs w W st.L rs vs→st.resCells ks rs=some (pc,st')→
 ∃W',QuietD B st a w W st' W'∧PCs w W' k pc vs
 | [],vs,st,st',W,ks,pc,k,h,hr,e=>by
  cases hr
  cases e
  exact ⟨W,QuietD.refl h,.nil⟩
 | r::rs,vs,st,st',W,ks,pc,k,h,hr,e=>by
  cases hr with
  | @cons _ _ v vs h1 h2=>
   simp only [St.resCells] at e
   obtain ⟨⟨⟨m,t,y⟩,st1⟩,e1,e⟩:=Option.bind_eq_some_iff.1 e
   obtain ⟨c,e2,e⟩:=Option.bind_eq_some_iff.1 e
   obtain ⟨⟨pc2,st2⟩,e3,e⟩:=Option.map_eq_some_iff.1 e
   cases e
   obtain ⟨W1,k1,k2,k3,k4,k5,k6⟩:=take_ok h h1 e1 k
   have hq:QuietD B st a w W st1 W1:=⟨⟨k1,k2,k3,k4⟩,k5⟩
   have h2':RRs w W1 st1.L rs vs:=h2.ext (fun t b hb=>⟨k4 _ _ hb,rfl⟩) k3
   cases m with
   | gone=>cases e2
   | imm=>
    cases e2
    obtain ⟨W2,l1,l2⟩:=resCells_ok rs vs k k1 h2' e3
    exact ⟨W2,hq.trans l1,.im (CRi.mono (fun b hb=>⟨l1.1.2.2.2 _ _ hb,rfl⟩) k6) l2⟩
   | sh=>
    cases y with
    | row sz es=>
     cases e2
     obtain ⟨W2,l1,l2⟩:=resCells_ok rs vs (k+1) k1 h2' e3
     exact ⟨W2,hq.trans l1,.ow (k6.step (fun t b hb=>⟨l1.1.2.2.2 _ _ hb,rfl⟩) fun b hb=>⟨l1.2 _ _ hb,rfl⟩) l2⟩
    | _=>cases e2
   | _=>cases y<;>cases e2
def resOf (a:Act):ResultVar→Sem Value
 | .tmp t=>pure (a.tmps.getD t undef)
 | .cell x t=>do loadVar t (←asAddr (a.tmps.getD x undef))
theorem resVal_ok (h:Rel B st a w W) {x:ResultVar×TypeId} {sv:SV} (e:st.resVal P x=some sv):∃v,(resOf a x.1).run P w= .ok v w∧SR w W st.L sv v:=by
 obtain ⟨rv,ty⟩:=x
 cases rv with
 | tmp t=>
  cases e
  exact ⟨_,rfl,h.slots t⟩
 | cell y t=>
  simp only [St.resVal] at e
  obtain ⟨ks,hks,e⟩:=Option.bind_eq_some_iff.1 e
  obtain ⟨r,hr,e⟩:=Option.bind_eq_some_iff.1 e
  obtain ⟨d,hd⟩:=kinds_under hks
  have hx:SR w W st.L (st.get (.tmp y)) (a.tmps.getD y undef):=h.slots y
  obtain ⟨b,off,arr,T,fr,us,rest,hv,hh,hdr,hlen,hs⟩:=load_ok h (one_rr hr hx) e
  refine ⟨_,?_,hs⟩
  have:=run_loadVar (P:=P) (w:=w) hd hh hdr hlen
  simp only [resOf,hv,Sem.run_bind,asAddr,Sem.run_pure,Result.andThen_ok]
  exact this
theorem results_ok:∀(l:List (ResultVar×TypeId)) {st st':St} {W:Wit} {res:Res} (k:Nat),Rel B st a w W→st.results P l=some (res,st')→
 ∃W' vs,QuietD B st a w W st' W'∧ResR w W' k res vs∧vs.length=l.length∧∀(i:Nat) x v,l[i]?=some x→vs[i]?=some v→(resOf a x.1).run P w= .ok v w
 | [],st,st',W,res,k,h,e=>by
  cases e
  exact ⟨W,[],QuietD.refl h,.nil,rfl,fun i x v hx=>by simp at hx⟩
 | x::l,st,st',W,res,k,h,e=>by
  simp only [St.results] at e
  obtain ⟨sv,e1,e⟩:=Option.bind_eq_some_iff.1 e
  obtain ⟨v,hv,hs⟩:=resVal_ok h e1
  cases sv with
  | v ag cs=>
   simp only at e
   obtain ⟨⟨pc,st1⟩,e2,e⟩:=Option.bind_eq_some_iff.1 e
   obtain ⟨⟨r,st2⟩,e3,e⟩:=Option.map_eq_some_iff.1 e
   cases e
   have fin:∀{W1:Wit} {us:List Value},QuietD B st a w W st1 W1→PCs w W1 k pc us→(∀{W2:Wit} {vs:List Value},PCs w W2 k pc us→ResR w W2 (k+nOw pc) r vs→ResR w W2 k ((ag,pc)::r) (v::vs))→
    ∃W' vs,QuietD B st a w W st2 W'∧ResR w W' k ((ag,pc)::r) vs∧vs.length=(x::l).length∧∀(i:Nat) y v,(x::l)[i]?=some y→vs[i]?=some v→(resOf a y.1).run P w= .ok v w:=by
    intro W1 us k1 k2 k3
    obtain ⟨W2,vs,l1,l2,l3,l4⟩:=results_ok l (k+nOw pc) k1.1.1 e3
    refine ⟨W2,v::vs,k1.trans l1,k3 (k2.quiet l1) l2,by simp [l3],fun i y u hy hu=>?_⟩
    cases i with
    | zero=>simp at hy hu;subst hy hu;exact hv
    | succ i=>exact l4 i y u (by simpa using hy) (by simpa using hu)
   rcases hs with ⟨p1,us,rfl,p2⟩ | ⟨p1,r0,p2,p3⟩
   ·simp only at p1 p2
    subst p1
    obtain ⟨W1,k1,k2⟩:=resCells_ok cs us.toList k h p2 e2
    exact fin k1 k2 fun h1 h2=> .agg h1 h2
   ·simp only at p1 p2
    subst p1 p2
    obtain ⟨W1,k1,k2⟩:=resCells_ok [r0] [v] k h (.cons p3 .nil) e2
    obtain ⟨c,hc⟩:∃c,pc=[c]:=by
     cases k2 with
     | im _ h2=>cases h2;exact ⟨_,rfl⟩
     | ow _ h2=>cases h2;exact ⟨_,rfl⟩
    subst hc
    exact fin k1 k2 fun h1 h2=> .one h1 h2
  | _=>cases e
def RetOK (w:World) (W:Wit) (L:Nat→Option Obj) (res:Res) (vs:List Value):Prop:=
 (∃o ob cs v,res=[(false,[.pt ob.ag cs])]∧vs=[v]∧L o=some ob∧ob.mem=true∧ob.fz=false∧ob.io=false∧goneFree ob.cs=some cs∧v= .pointer (some ⟨W.blk o,0,none⟩))∨ResR w W 0 res vs
theorem ret_ok (h:Rel B st a w W) {l:List (ResultVar×TypeId)} {res:Res} (e:st.ret P l=some (res,st')):
 ∃W' vs,QuietD B st a w W st' W'∧RetOK w W' st'.L res vs∧vs.length=l.length∧∀(i:Nat) x v,l[i]?=some x→vs[i]?=some v→(resOf a x.1).run P w= .ok v w:=by
 have gen:∀{l:List (ResultVar×TypeId)},st.results P l=some (res,st')→∃W' vs,QuietD B st a w W st' W'∧RetOK w W' st'.L res vs∧vs.length=l.length∧∀(i:Nat) x v,l[i]?=some x→vs[i]?=some v→(resOf a x.1).run P w= .ok v w:=by
  intro l e
  obtain ⟨W',vs,k1,k2,k3,k4⟩:=results_ok l 0 h e
  exact ⟨W',vs,k1,.inr k2,k3,k4⟩
 unfold St.ret at e
 split at e
 ·rename_i x
  split at e
  ·rename_i p hp
   cases e
   unfold St.retVar at hp
   split at hp
   ·rename_i o s he
    obtain ⟨ob,h1,hp⟩:=Option.bind_eq_some_iff.1 hp
    split at hp
    ·rename_i hc
     simp only [Bool.and_eq_true,Bool.not_eq_true'] at hc
     obtain ⟨cs,h2,h3⟩:=Option.map_eq_some_iff.1 hp
     subst h3
     obtain ⟨v,hv,hs⟩:=resVal_ok h he
     obtain ⟨hL,hg⟩:=obj_inv h1
     obtain ⟨ob2,q1,_,q3⟩:=v_false hs
     rw [hL] at q1;cases q1
     refine ⟨W,[v],QuietD.refl h,.inl ⟨o,ob,cs,v,rfl,rfl,hL,hc.1.1,hc.1.2,hc.2,h2,(q3 hg).2⟩,rfl,fun i y u hy hu=>?_⟩
     cases i with
     | zero=>simp at hy hu;subst hy hu;exact hv
     | succ i=>simp at hy
    ·cases hp
   ·cases hp
  ·exact gen e
 ·exact gen e
def retVal (vs:List Value):Value:=match vs with | [v]=>v | vs=> .tuple vs.toArray
theorem results_run {fn:Func} {vs:List Value} (hl:vs.length=fn.results.size) (h:∀(i:Nat) x v,fn.results.toList[i]?=some x→vs[i]?=some v→(resOf a x).run P w= .ok v w):(results fn a.tmps).run P w= .ok (retVal vs) w:=by
 have hm:∀(l:List ResultVar) (vs:List Value),vs.length=l.length→(∀(i:Nat) x v,l[i]?=some x→vs[i]?=some v→(resOf a x).run P w= .ok v w)→(l.mapM (resOf a)).run P w= .ok vs w:=by
  intro l
  induction l with
  | nil=>intro vs hl _;rw [List.length_eq_zero_iff.1 hl];rfl
  | cons x l ih=>
   intro vs hl h
   cases vs with
   | nil=>cases hl
   | cons v vs=>
    rw [List.mapM_cons]
    simp only [Sem.run_bind,h 0 x v rfl rfl,Result.andThen_ok,ih vs (by simpa using hl) fun i x v hx hv=>h (i+1) x v (by simpa using hx) (by simpa using hv),Sem.run_pure]
 have h1:=hm fn.results.toList vs (by simpa using hl) h
 have h2:(fn.results.mapM (resOf a)).run P w= .ok vs.toArray w:=by
  rw [Array.mapM_eq_mapM_toList]
  simp [h1]
 have h3:results fn a.tmps=(do let vs ←fn.results.mapM (resOf a);pure (if h:vs.size=1 then vs[0] else .tuple vs):Sem Value):=by
  unfold results
  congr 1
 rw [h3]
 simp only [Sem.run_bind,h2,Result.andThen_ok,Sem.run_pure]
 congr 1
 unfold retVal
 cases vs with
 | nil=>rfl
 | cons v vs=>
  cases vs with
  | nil=>rfl
  | cons u vs=>rw [dif_neg (by simp)]
theorem outFreeze_ok:∀(args:List Arg) {j:Nat} {st:St} {W:Wit},Rel B st a w W→∃W',QuietD B st a w W (st.outFreeze cfg f j args) W'∧∀o ob,ob.io=false→st.L o=some ob→(st.outFreeze cfg f j args).L o=some ob
 | [],j,st,W,h=>⟨W,QuietD.refl h,fun _ _ _ h=>h⟩
 | x::args,j,st,W,h=>by
  have rest:∃W',QuietD B st a w W (st.outFreeze cfg f (j+1) args) W'∧∀o ob,ob.io=false→st.L o=some ob→(st.outFreeze cfg f (j+1) args).L o=some ob:=outFreeze_ok args h
  cases x with
  | ptr ag cs=>
   simp only [St.outFreeze]
   split
   ·rename_i ms ob hpar hL
    split
    ·rename_i hc
     simp only [Bool.and_eq_true] at hc
     obtain ⟨W1,k1⟩:=freezeAt_ok (immAt 0 ms) h hL
     obtain ⟨W2,l1,l2⟩:=outFreeze_ok args (j:=j+1) k1.1.1
     refine ⟨W2,k1.trans l1,fun o ob' hio hL'=>l2 o ob' hio ?_⟩
     have hne:o≠j:=by
      intro e
      subst e
      rw [hL] at hL';cases hL'
      rw [hc.1.1] at hio;cases hio
     simp only [St.setObj,upd_ne _ _ hne]
     exact hL'
    ·exact rest
   ·exact rest
  | _=>exact rest
def Returned (cfg:Cfg) (f:FuncId) (B:Base) (args:List Arg) (res:Res) (outs:List Out) (w:World) (v:Value):Prop:=
 ∃st a W vs,Rel B st a w W∧RetOK w W st.L res vs∧v=retVal vs∧outsOf cfg st f 0 args=some outs
def startAct (vs:List Value) (n:Nat):Act:={tmps:=vs.toArray++Array.replicate (n - vs.length) undef,defers:=[]}
def FunOK (P:Program) (cfg:Cfg) (callF:FuncId→List Arg→Option (Res×List Out)):Prop:=
 ∀f args res outs,callF f args=some (res,outs)→∀(w:World) (vs:List Value) (W:Wit),vs.length=args.length→BOK cfg.gb (baseIn w W 0)→(∀n,vs.length≤n→Rel (baseIn w W n) (entry args) (startAct vs n) w W)→
  Calls P f vs.toArray w fun e w'=>∃v n,e= .returned v∧Returned cfg f (baseIn w W n) args res outs w' v
theorem evBody_ok (hmix:P.follows .mixedOrders=true) {n:Nat} (hops:∀B,BOK cfg.gb B→OpsOK P cfg callF B) {fn:Func} (hf:P.funcs[f]?=some fn) (hgood:∀c,fn.body=some c→codeGood (cfg.fc f) c=true) {args:List Arg} {res:Res} {outs:List Out}
 (e:evBody P cfg callF n f fn args=some (res,outs)) (w:World) (vs:List Value) (W:Wit) (hl:vs.length=args.length) (hg:BOK cfg.gb (baseIn w W 0)) (hr:∀n,vs.length≤n→Rel (baseIn w W n) (entry args) (startAct vs n) w W):
 Calls P f vs.toArray w fun e w'=>∃v n,e= .returned v∧Returned cfg f (baseIn w W n) args res outs w' v:=by
 unfold evBody at e
 split at e
 ·cases e
 ·rename_i hn
  have hn:args.length≤fn.ntmps:=by
   have:Nat.ble args.length fn.ntmps=true:=by simpa using hn
   exact ble_le this
  obtain ⟨c,hc,e⟩:=Option.bind_eq_some_iff.1 e
  obtain ⟨⟨ex,st1⟩,h1,e⟩:=Option.bind_eq_some_iff.1 e
  have hend:ex≠ .exit 0→True:=fun _=>trivial
  have hw:=evCode_ok (B:=baseIn w W fn.ntmps) hmix (hops _ hg) rfl c (hgood c hc) (hr fn.ntmps (by omega)) h1
  have hstart:startAct vs fn.ntmps={tmps:=vs.toArray++Array.replicate (fn.ntmps - vs.toArray.size) undef,defers:=[]}:=by simp [startAct]
  rw [hstart] at hw
  refine calls_of_wp hf hc (wp_mono hw fun x a' w' hx=>?_)
  have fin:∀{W1:Wit},Rel (baseIn w W fn.ntmps) st1 a' w' W1→((if fn.results.size.beq fn.resultTypes.size then st1.ret P (fn.results.toList.zip fn.resultTypes.toList) else none).bind fun q=>(outsOf cfg (q.2.outFreeze cfg f 0 args) f 0 args).map fun outs=>(q.1,outs))=some (res,outs)→
   a'.defers=[]∧∃v,(results fn a'.tmps).run P w'= .ok v w'∧∃v' n,Ending.returned v= .returned v'∧Returned cfg f (baseIn w W n) args res outs w' v':=by
   intro W1 hr1 e
   refine ⟨hr1.defers,?_⟩
   obtain ⟨⟨r,st2⟩,h2,e⟩:=Option.bind_eq_some_iff.1 e
   obtain ⟨outs',h3,e⟩:=Option.map_eq_some_iff.1 e
   cases e
   split at h2
   ·rename_i hsz
    have hsz:=beq_eq hsz
    obtain ⟨W2,us,k1,k2,k3,k4⟩:=ret_ok hr1 h2
    obtain ⟨W3,l1,l2⟩:=outFreeze_ok (cfg:=cfg) (f:=f) args (j:=0) k1.1.1
    have hlen:us.length=fn.results.size:=by
     rw [k3,List.length_zip];simp;omega
    refine ⟨retVal us,results_run hlen fun i x v hx hv=>?_,retVal us,fn.ntmps,rfl,_,a',W3,us,l1.1.1,?_,rfl,h3⟩
    ·have hilt:i<fn.resultTypes.toList.length:=by
      rcases Nat.lt_or_ge i fn.results.toList.length with h' | h'
      ·simp at h' ⊢;omega
      ·rw [List.getElem?_eq_none h'] at hx;cases hx
     have hz:(fn.results.toList.zip fn.resultTypes.toList)[i]?=some (x,fn.resultTypes.toList[i]):=by
      rw [List.getElem?_zip_eq_some]
      exact ⟨hx,List.getElem?_eq_getElem hilt⟩
     exact k4 i _ v hz hv
    ·rcases k2 with ⟨o,ob,cs,v,q1,q2,q3,q4,q5,q6,q7,q8⟩ | k2
     ·refine .inl ⟨o,ob,cs,v,q1,q2,l2 o ob q6 q3,q4,q5,q6,q7,?_⟩
      rw [q8]
      obtain ⟨ob',m1,_,_,_,m5⟩:=l1.1.2.2.1 o ob q3
      rw [l2 o ob q6 q3] at m1;cases m1
      rw [(m5 rfl).2]
     ·exact .inr (k2.quiet l1)
   ·cases h2
  cases x with
  | normal=>
   obtain ⟨p1,W1,p2⟩:=hx
   subst p1
   exact fin p2 e
  | ret=>
   obtain ⟨p1,W1,p2⟩:=hx
   subst p1
   exact fin p2 e
  | exit id=>
   obtain ⟨p1,W1,p2⟩:=hx
   subst p1
   cases e
  | _=>exact hx.elim
end
end
end Go.Sim
