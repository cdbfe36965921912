/- The machine is sound: what it answers, a call answers. Conditions: none. -/
import Derived.Test.YtnjgcdpleghciaaGreatSimW
namespace Go.Sim
variable [Lim]
open Classical
set_option linter.unusedSimpArgs false
set_option linter.unusedVariables false
noncomputable section
section
variable {P:Program} {cfg:Cfg} {aQ:FuncId→List Arg→Option (Res×List Out)} {B:Base} {st st':St} {a:Act} {w:World} {W:Wit} {o:Oper} {nt f:Nat} {ops:Array Oper}
omit [Lim] in
theorem ES {d:Nat} {mt:Nat→Option Nat} {res:Res} (hnp:∀ag cs,res≠[(false,[.pt ag cs])]):
 st.unpack (some d) mt res=(wB d (st.pR d) mt res []).map (fun q=>(st.zx d q.2).bD d (Eu q.1)):=by
 unfold St.unpack
 simp only
theorem YY (hF:Qv P cfg aQ) (hB:BOK cfg.gb B) (h:Rel B st a w W) {dst:Option Tmp} (hd:∀d,dst=some d→d<B.nt) {xs:List (TypeId×SV)} {vs:List Value} (hs:SRs w W st.L xs vs) (e:st.call P cfg aQ dst f xs=some st'):
 Calls P f vs.toArray w fun e w'=>∃v,e= .returned v∧∃W',Rel B st' (a.put dst v) w' W':=by
 unfold St.call at e
 obtain ⟨⟨pre,st1⟩,e1,e⟩:=Option.bind_eq_some_iff.1 e
 obtain ⟨p,e2,e⟩:=Option.bind_eq_some_iff.1 e
 split at e
 ·cases e
 ·rename_i hc
  have hc:overlap p.bor (p.iW.map (·.1))=false∧Cm (p.iW.map (·.1))=false:=by simpa [Bool.or_eq_false_iff] using hc
  obtain ⟨⟨res,outs⟩,e3,e⟩:=Option.bind_eq_some_iff.1 e
  obtain ⟨W1,hq,hfix⟩:=J6 xs vs h hs e1
  have h1:=hq.1
  obtain ⟨lks,hA,uN,hlen⟩:=Nv (T:=Nat.max p.tag p.gY) (iot:=p.gY) (bor:=p.bor) h1 xs vs (j:=0) (hs.quiet hq) hfix e2 (Nat.le_max_left _ _) (Nat.le_refl _) (fun o ho=>ho)
  have af1:p.iW.map (·.1)=lks.filterMap LK.id? :=by
   rw [←Vh,←uN,List.map_map]
   rfl
  rw [af1] at hc
  have abR:∀q∈cfg.gb,W1.own q.1=none∧q.1<w.heap.size∧∃arr T fr,w.heap[q.1]?=some (.cells arr T fr)∧q.2 arr:=by
   intro q hq
   obtain ⟨b1,b2,arr,T,fr,b3,b4⟩:=hB.2 q hq
   refine ⟨?_,Nat.lt_of_lt_of_le b1 h1.size,arr,T,fr,(h1.frame _ b1 b2).trans b3,b4⟩
   cases hx:W1.own q.1 with
   | none=>rfl
   | some x=>
    rcases (h1.olt _ x hx).2 with b5 | b5
    ·omega
    ·exact absurd b5 b2
  have hlim:Lim.n≤w.heap.size:=Nat.le_trans hB.1 h1.size
  have hBn:BOK cfg.gb (eP w (tX W1 (Nat.max p.tag p.gY) p.bor) 0):=by
   refine ⟨hlim,fun q hq=>?_⟩
   obtain ⟨g1,g2,arr,T,fr,g3,g4⟩:=abR q hq
   exact ⟨g2,(fun hl=>hl rfl),arr,T,fr,g3,g4⟩
  split at e
  ·rename_i hfr
   simp only [Bool.and_eq_true] at hfr
   obtain ⟨res',hq1,e⟩:=Option.bind_eq_some_iff.1 e
   obtain ⟨d,rfl⟩:∃d,dst=some d:=by
    cases dst with
    | none=>cases hfr.1
    | some d=>exact ⟨d,rfl⟩
   refine Calls.mono (hF f p.args res outs e3 w vs _ hA.J7 hBn (fun n hn=>ND h1 hA hfr.2 n hn)) fun x w' hx=>?_
   obtain ⟨v,n,rfl,st2,a2,W2,us,hr2,hret,rfl,Xg⟩:=hx
   have hret:Ag w' W2 0 res us:=by
    rcases hret with ⟨o,ob,cs,v,rfl,_⟩ | hret
    ·cases hq1
    ·exact hret
   obtain ⟨W3,k1,k2⟩:=Xf h1 hr2 hlim hret hq1
   have hnp:∀ag cs,res'≠[(false,[.pt ag cs])]:=by
    intro ag cs e0
    subst e0
    cases k2 with
    | one h1 _=>cases h1
   rw [ES hnp] at e
   obtain ⟨q,hq1,hq2⟩:=Option.map_eq_some_iff.1 e
   subst hq2
   exact ⟨_,rfl,NC (W2:={W3 with F:=fun _ _=>False}) k1 (hd d rfl) rfl (fun t t' _ b hb=>hb.elim) (fun b k hb=>hb) k2 hq1⟩
  split at e
  ·rename_i hfr
   simp only [Bool.and_eq_true] at hfr
   obtain ⟨q,hq1,e⟩:=Option.bind_eq_some_iff.1 e
   obtain ⟨d,hdd,e4⟩:=Option.map_eq_some_iff.1 e
   clear e
   subst hdd e4
   refine Calls.mono (hF f p.args res outs e3 w vs _ hA.J7 hBn (fun n hn=>ND h1 hA hfr.2 n hn)) fun x w' hx=>?_
   obtain ⟨v,n,rfl,st2,a2,W2,us,hr2,hret,rfl,Xg⟩:=hx
   refine ⟨_,rfl,_,(Xe h1 hr2).put (hd d rfl) (Kv (Qy h1 hr2 res us (k:=0) ?_ hq1))⟩
   rcases hret with ⟨o,ob,cs,v,rfl,_⟩ | hret
   ·cases hq1
   ·exact hret
  obtain ⟨st3,e4,e⟩:=Option.bind_eq_some_iff.1 e
  simp only at e2 e3 e4 e
  obtain ⟨db,hent⟩:=WX h1 hA (Nat.le_max_right _ _) hc.2 hc.1
  have hce:∀b,(vK W1 lks vs (Nat.max p.tag p.gY) p.gY p.bor db).F 2 b→(vK W1 lks vs (Nat.max p.tag p.gY) p.gY p.bor db).own b=none∧b<w.heap.size:=fun b hb=>⟨(hent vs.length (Nat.le_refl _)).ng b hb,(hent vs.length (Nat.le_refl _)).flt b hb⟩
  have hBc:BOK cfg.gb (eP w (vK W1 lks vs (Nat.max p.tag p.gY) p.gY p.bor db) 0):=by
   refine ⟨hlim,fun q hq=>?_⟩
   obtain ⟨hn,g2,arr,T,fr,g3,g4⟩:=abR q hq
   exact ⟨g2,(fun hl=>hl (by simp [vK,ownIn,hn])),arr,T,fr,g3,g4⟩
  refine Calls.mono (hF f p.args res outs e3 w vs _ hA.J7 hBc (fun n hn=>hent n hn)) fun x w' hx=>?_
  obtain ⟨v,n,rfl,st2,a2,W2,us,hr2,hret,rfl,Xg⟩:=hx
  refine ⟨_,rfl,?_⟩
  obtain ⟨k1,k2,k3⟩:=Ox p.args vs lks 0 p.iW outs (st:=st1) hA uN hc.2 Xg e4
  have hout:∀(i:Nat) lk,lks[i]?=some lk→Kr cfg f st1 st2 st3 p.gY i lk:=fun i lk hi=>by
   have:=k3 i lk hi
   rwa [Nat.zero_add] at this
  have htag:∀{W3:Wit},(∀b t,W3.F t b↔(W1.F t b∨(CB w (vK W1 lks vs (Nat.max p.tag p.gY) p.gY p.bor db) b∧W2.F 2 b)))→
   (∀t b,W2.F t b→(eP w (vK W1 lks vs (Nat.max p.tag p.gY) p.gY p.bor db) n).F t b∨(CB w (vK W1 lks vs (Nat.max p.tag p.gY) p.gY p.bor db) b∧W2.F 2 b)∨2<t)→
   ∀t t',EG (!p.bor.isEmpty) p.tag p.gY t=some t'→∀b,W2.F (tg t) b→W3.F (tg t') b:=by
   intro W3 hW3 hsp t t' ht b hb
   rw [hW3]
   rcases hsp _ b hb with q | q | q
   ·match t,ht,q with
    | 0,ht,q=>
     cases ht
     exact .inl q
    | 1,ht,q=>
     cases ht
     exact .inl q
    | t+2,ht,q=>
     simp only [EG] at ht
     cases acB:p.bor with
     | cons _ _=>rw [acB] at ht;cases ht
     | nil=>
      rw [acB] at ht
      cases ht
      have e2:tg (t+2)=2:=by unfold tg;omega
      rw [e2] at q
      rcases q with q | ⟨o,ho,_⟩
      ·exact .inl q
      ·rw [acB] at ho;cases ho
   ·exact .inr q
   ·have:tg t≤2:=by unfold tg;omega
    omega
  cases dst with
  | none=>
   simp only [St.unpack,Option.some.injEq] at e
   subst e
   obtain ⟨r1,_⟩:=Oz (d:=0) (r:=none) h1 hA (Nat.le_max_right _ _) hc.2 rfl hce hr2 k1 k2 hout (fun o' ho'=>by cases ho')
   exact ⟨_,r1⟩
  | some d=>
   have hdn:=hd d rfl
   rcases hret with ⟨o,ob,cs,v,rfl,rfl,q1,q2,q3,q4,q5,rfl⟩ | hret
   ·obtain ⟨r1,r2,r3⟩:=Oz (d:=d) (r:=some o) h1 hA (Nat.le_max_right _ _) hc.2 rfl hce hr2 k1 k2 hout (fun o' ho' ob' aej=>by
     cases ho'
     rw [q1] at aej;cases aej;exact q4)
    simp only [St.unpack] at e
    obtain ⟨cs',hcs,e⟩:=Option.map_eq_some_iff.1 e
    subst e
    exact OA r1 hdn (htag (fun b t=>Iff.rfl) r3) hr2 q1 q2 q3 q5 hcs (fun b hb=>by rw [r2 b (hr2.olt b _ hb).2];simp [qU,hb]) (fun b c hb=>by rw [r2 b (hr2.olt b _ hb).2];simp [qU,hb])
   ·obtain ⟨r1,r2,r3⟩:=Oz (d:=d) (r:=none) h1 hA (Nat.le_max_right _ _) hc.2 rfl hce hr2 k1 k2 hout (fun o' ho'=>by cases ho')
    have hnp:∀ag cs,res≠[(false,[.pt ag cs])]:=by
     intro ag cs e0
     subst e0
     cases hret with
     | one h1 _=>cases h1
    rw [ES hnp] at e
    obtain ⟨q,hq1,hq2⟩:=Option.map_eq_some_iff.1 e
    subst hq2
    exact NC r1 hdn rfl (htag (fun b t=>Iff.rfl) r3) (fun b k hb=>by rw [r2 b (hr2.olt b _ hb).2];simp [qU,hb]) hret hq1
def Enters (P:Program) (aQ:FuncId→List Arg→Option (Res×List Out)):Prop:=
 ∀f args r,aQ f args=some r→∃fn,P.funcs[f]?=some fn∧fn.body.isNone=false∧(fn.name=="runtime.NumGoroutine")=false
theorem YZ (hF:Qv P cfg aQ) (hB:BOK cfg.gb B) (hE:Enters P aQ) (h:Rel B st a w W) (hn:nt=B.nt) {c:Call} {g:Operand} (hc:c.callee= .value g) (ho:o.op= .call c) (e:aC P cfg aQ nt o st=some st'):Good P B o st' a w:=by
 subst hn
 simp only [aC,ho,hc] at e
 have hg:=h.get g
 have zip:∀{us:List Value} {ys:List (TypeId×SV)},c.argTypes.size=c.args.size→SRs w W st.L ys us→SRs w W st.L (c.argTypes.toList.zip (c.args.toList.map st.get)++ys) (c.args.toList.map a.eval++us):=by
  intro us ys hsz hys
  have:∀(ts:List TypeId) (xs:List Operand),ts.length=xs.length→SRs w W st.L (ts.zip (xs.map st.get)++ys) (xs.map a.eval++us):=by
   intro ts xs
   induction xs generalizing ts with
   | nil=>intro hl;cases ts with
    | nil=>exact hys
    | cons _ _=>cases hl
   | cons x xs ih=>
    intro hl
    cases ts with
    | nil=>cases hl
    | cons t ts=>exact .cons (h.get x) (ih ts (by simpa using hl))
  exact this _ _ (by simpa using hsz)
 have fin:∀{f:FuncId} {caps:Array Value} {ys:List (TypeId×SV)},a.eval g= .func (.func f) #[] caps→SRs w W st.L ys caps.toList→
  (if c.argTypes.size.beq c.args.size&&FN B.nt o.dst then st.call P cfg aQ o.dst f (c.argTypes.toList.zip (c.args.toList.map st.get)++ys) else none)=some st'→Good P B o st' a w:=by
  intro f caps ys hv hys e
  split at e
  ·rename_i hcond
   simp only [Bool.and_eq_true] at hcond
   have hsz:=beq_eq hcond.1
   have hdst:∀d,o.dst=some d→d<B.nt:=fun d hd=>by
    have:=hcond.2
    rw [hd] at this
    exact xJ this
   obtain ⟨r,hr⟩:∃r,∃args,aQ f args=some r:=by
    unfold St.call at e
    obtain ⟨pre,_,e⟩:=Option.bind_eq_some_iff.1 e
    obtain ⟨p,_,e⟩:=Option.bind_eq_some_iff.1 e
    split at e
    ·cases e
    ·obtain ⟨r,h1,_⟩:=Option.bind_eq_some_iff.1 e
     exact ⟨r,_,h1⟩
   obtain ⟨args,hr⟩:=hr
   obtain ⟨fn,f1,f2,f3⟩:=hE f args r hr
   have hcall:=YY hF hB h hdst (zip hsz hys) e
   have hargs:(c.args.toList.map a.eval++caps.toList).toArray=c.args.map a.eval++caps:=by
    apply Array.ext'
    simp
   rw [hargs] at hcall
   intro K Q hK
   unfold Oper.wp
   have hrun:(execOp a.eval o).run P w= .ok (.enter f (c.args.map a.eval++caps)) w:=by
    have f2':fn.body.isNone=false:=f2
    have f3':¬fn.name="runtime.NumGoroutine":=by simpa using f3
    have af2:¬fn.body=none:=by
     intro e0
     rw [e0] at f2
     cases f2
    simp [execOp,ho,resolve,hc,hv,Deferred.ofValue,invoke,callFunc,f1,f3',af2]
   rw [hrun,Oper.upon_enter]
   refine Calls.mono hcall fun x w' hx=>?_
   obtain ⟨v,rfl,W',hr'⟩:=hx
   exact hK _ _ _ hr'
  ·cases e
 split at e
 ·rename_i f caps hv
  rw [hv] at hg
  obtain ⟨us,h1,h2⟩:=hg
  refine fin h1 ?_ e
  have:∀{rs:List RV} {us:List Value},RRs w W st.L rs us→SRs w W st.L (rs.map fun r=>(0,SV.v false [r])) us:=by
   intro rs us hr
   induction hr with
   | nil=>exact .nil
   | cons h1 _ ih=>exact .cons (Bi h1) ih
  exact this h2
 ·rename_i t f cs hv
  rw [hv] at hg
  have hr:RR w W st.L (.im t (.clo f cs)) (a.eval g):=eX hg
  have hcr:CRi w (W.F (tg t)) [.clo f cs] [a.eval g]:=hr
  generalize hgv:a.eval g=gv at hcr
  cases hcr with
  | @clo _ _ us _ _ hcs _=>
   refine fin (caps:=us.toArray) hgv ?_ e
   have:∀{as:List AV} {us:List Value},CRi w (W.F (tg t)) as us→SRs w W st.L (as.map fun y=>(0,SV.im t y)) us:=by
    intro as
    induction as with
    | nil=>intro us hc;cases hc;exact .nil
    | cons y as ih=>
     intro us hc
     obtain ⟨v,us',rfl,h1,h2⟩:=CRi.cons_inv hc
     exact .cons (Bi h1.abL) (ih h2)
   simpa using this hcs
 ·cases e
end
end
end Go.Sim
namespace Go.Sim
variable [Lim]
open Classical
set_option linter.unusedSimpArgs false
set_option linter.unusedVariables false
noncomputable section
section
variable {P:Program} {cfg:Cfg} {aQ:FuncId→List Arg→Option (Res×List Out)} {B:Base} {st st':St} {a:Act} {w:World} {W:Wit} {o:Oper} {nt f:Nat} {ops:Array Oper}
theorem abS (hF:Qv P cfg aQ) (hE:Enters P aQ) (B:Base) (hB:BOK cfg.gb B):JY P cfg aQ B:=by
 intro o st st' a w W h e
 cases ho:o.op with
 | move x=>exact YF h rfl ho e
 | assign x=>exact U3 h rfl ho e
 | pick c x y=>exact YG h rfl ho e
 | alloc t=>exact Wu h rfl ho e
 | box t x=>exact ack h rfl ho e
 | build t ps=>exact WA h rfl ho e
 | buildSlice t n ps=>exact L9 h rfl ho e
 | load t x=>exact YH h rfl ho e
 | store t p x=>exact Wv h rfl ho e
 | nilCheck x=>exact P6 h rfl ho e
 | binOp op t x y t2=>exact Ws h rfl ho e
 | unOp op t x=>exact YJ h rfl ho e
 | convert s t x=>exact RI h rfl ho e
 | makeFunc fn first caps=>
  cases fn with
  | func f=>exact P9 h rfl ho e
  | _=>simp [aC,ho] at e
 | makeSlice t n c=>exact Oj h rfl ho e
 | slice t x lo hi mx=>
  cases mx with
  | none=>exact ok_slice h rfl ho e
  | some _=>simp [aC,ho] at e
 | fieldAddr s x f=>exact N9 h rfl ho e
 | field t x f=>exact Wy h rfl ho e
 | indexAddr t x i=>exact Og h rfl ho e
 | index t x i=>exact Wq h rfl ho e
 | extract x i=>exact RJ h rfl ho e
 | call c=>
  cases hc:c.callee with
  | builtin b=>
   cases b with
   | len=>exact ach h rfl hc ho e
   | min=>exact aci h rfl hc ho e
   | max=>exact acj h rfl hc ho e
   | append=>exact U7 h rfl hc ho e
   | _=>simp [aC,ho,hc] at e
  | value g=>exact YZ hF hB hE h rfl hc ho e
  | _=>simp [aC,ho,hc] at e
 | _=>simp [aC,ho] at e
def Plain (P:Program) (f:FuncId):Prop:=∃fn,P.funcs[f]?=some fn∧fn.body.isNone=false∧(fn.name=="runtime.NumGoroutine")=false
structure Ug (P:Program) (cfg:Cfg):Prop where
 mix:P.follows .mixedOrders=true
 code:∀f fn c,cfg.on f=true→P.funcs[f]?=some fn→fn.body=some c→lF (cfg.fc f) c=true
 name:∀f fn,cfg.on f=true→P.funcs[f]?=some fn→(fn.name=="runtime.NumGoroutine")=false
 ext:∀f g,cfg.ext f=some g→Plain P f∧∀args res outs,g args=some (res,outs)→∀(w:World) (vs:List Value) (W:Wit),vs.length=args.length→BOK cfg.gb (eP w W 0)→(∀n,vs.length≤n→Rel (eP w W n) (entry args) (jE vs n) w W)→
  Calls P f vs.toArray w fun e w'=>∃v n,e= .returned v∧uM cfg f (eP w W n) args res outs w' v
theorem Xh (hc:Ug P cfg):∀n,Qv P cfg (evF P cfg n)∧Enters P (evF P cfg n)
 | 0=>⟨(fun f args res outs e=>by cases e),(fun f args r e=>by cases e)⟩
 | n+1=>by
  obtain ⟨ih1,ih2⟩:=Xh hc n
  refine ⟨fun f args res outs e=>?_,fun f args r e=>?_⟩
  ·intro w vs W hl hB hr
   simp only [evF] at e
   cases hx:cfg.ext f with
   | some g=>
    rw [hx] at e
    exact (hc.ext f g hx).2 args _ _ e w vs W hl hB hr
   | none=>
    rw [hx] at e
    simp only at e
    split at e
    ·rename_i hon
     obtain ⟨fn,hf,e⟩:=Option.bind_eq_some_iff.1 e
     exact Vg hc.mix (abS ih1 ih2) hf (fun c hb=>hc.code f fn c hon hf hb) e w vs W hl hB hr
    ·cases e
  ·simp only [evF] at e
   cases hx:cfg.ext f with
   | some g=>exact (hc.ext f g hx).1
   | none=>
    rw [hx] at e
    simp only at e
    split at e
    ·rename_i hon
     obtain ⟨fn,hf,e⟩:=Option.bind_eq_some_iff.1 e
     refine ⟨fn,hf,?_,hc.name f fn hon hf⟩
     unfold Bh at e
     split at e
     ·cases e
     ·obtain ⟨c,hb,_⟩:=Option.bind_eq_some_iff.1 e
      rw [hb];rfl
    ·cases e
end
end
end Go.Sim
