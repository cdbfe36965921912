/- The caller's frame behind a call. Conditions: none. -/
import Derived.Test.YtngbehdgjocndaaGreatSimT
namespace Go.Sim
variable [Lim]
open Classical
set_option linter.unusedSimpArgs false
set_option linter.unusedVariables false
noncomputable section
omit [Lim] in
theorem abU (lks:List LK):(lks.filterMap LK.oc?).map (·.1)=lks.filterMap LK.id? :=by
 induction lks with
 | nil=>rfl
 | cons x lks ih=>
  cases x with
  | no=>exact ih
  | det=>exact ih
  | obj o=>exact congrArg (o::·) ih
  | row o c=>exact congrArg (o::·) ih
def Qm (cfg:Cfg) (f:FuncId) (st st2 st3:St) (tag j:Nat):LK→Prop
 | .obj o=>∃ob ob2 cs,st.L o=some ob∧st2.L j=some ob2∧ob2.io=true∧ob2.mem=true∧ob2.fz=false∧UZ 1 ob2.cs cs∧
  st3.L o=some {ob with ctr:=ob.ctr+1,cs:=cs.map fun x=>⟨x.1.get,ob.ctr+1,(match x.1 with | .imm=>dm tag x.2 | _=>0),x.2⟩}
 | .row o c=>∃ob ob2 s2 sz es x es1,st.L o=some ob∧st2.L j=some ob2∧ob2.io=true∧ob2.mem=false∧ob2.cs=[⟨.sh,s2,0,.row sz es⟩]∧
  ob.cs[c]?=some x∧x.a= .row sz es1∧st3.L o=some {ob with cs:=ob.cs.set c ⟨.sh,x.s,0,.row sz es⟩}
 | _=>True
section
variable {P:Program} {cfg:Cfg} {aY:FuncId→List Arg→Option (Res×List Out)} {B:Base} {st st':St} {a:Act} {w:World} {W:Wit} {o:Oper} {nt f:Nat} {ops:Array Oper}
theorem U2 {st2 st3:St} {tag:Nat} {T iot:Nat} {bor:List Nat} {w0:World} {W0:Wit} {stA:St}:∀(args:List Arg) (vs:List Value) (lks:List LK) (j:Nat) (iZ:List (Nat×Nat×Nat)) (outs:List Out) {st:St},ML w0 W0 stA T iot bor args vs lks j→
 iZ.map (fun x=>(x.1,x.2.2))=lks.filterMap LK.oc? →Gj (lks.filterMap LK.id?)=false→vY cfg st2 f j args=some outs→lK st tag iZ outs=some st3→
 st3.sl=st.sl∧(∀o,o∉lks.filterMap LK.id? →st3.L o=st.L o)∧∀(i:Nat) lk,lks[i]?=some lk→Qm cfg f st st2 st3 tag (j+i) lk
 | [],vs,lks,j,iZ,outs,st,hA,xY,hd,e1,e2=>by
  have:lks=[]:=List.length_eq_zero_iff.1 hA.len
  subst this
  have:iZ=[]:=by simpa using xY
  subst this
  cases e1
  cases e2
  exact ⟨rfl,fun _ _=>rfl,fun i lk h=>by simp at h⟩
 | x::args,vs,lks,j,iZ,outs,st,hA,xY,hd,e1,e2=>by
  cases lks with
  | nil=>have:=hA.len;simp at this
  | cons lk lks=>
   cases vs with
   | nil=>have:=hA.Qg;simp at this
   | cons v vs=>
    have h0:ZW w0 W0 stA T iot bor j x v lk:=by
     have:=hA.at_ 0 x v lk rfl rfl rfl
     simpa using this
    have hA':ML w0 W0 stA T iot bor args vs lks (j+1):=⟨by simpa using hA.len,by simpa using hA.Qg,fun i x v lk hx hv hl=>by
     have:=hA.at_ (i+1) x v lk (by simpa using hx) (by simpa using hv) (by simpa using hl)
     rwa [show j+(i+1)=j+1+i by omega] at this⟩
    have pass:LK.oc? lk=none→LK.id? lk=none→vY cfg st2 f (j+1) args=some outs→(∀st st2 st3,Qm cfg f st st2 st3 tag j lk)→
     st3.sl=st.sl∧(∀o,o∉(lk::lks).filterMap LK.id? →st3.L o=st.L o)∧∀(i:Nat) lk',(lk::lks)[i]?=some lk'→Qm cfg f st st2 st3 tag (j+i) lk':=by
     intro hn1 hn2 e1 alp
     rw [List.filterMap_cons_none hn1] at xY
     rw [List.filterMap_cons_none hn2] at hd
     obtain ⟨k1,k2,k3⟩:=U2 args vs lks (j+1) iZ outs hA' xY hd e1 e2
     refine ⟨k1,fun o ho=>k2 o (by rwa [List.filterMap_cons_none hn2] at ho),fun i lk' hi=>?_⟩
     cases i with
     | zero=>simp at hi;subst hi;exact alp _ _ _
     | succ i=>
      have:=k3 i lk' (by simpa using hi)
      rwa [show j+(i+1)=j+1+i by omega]
    have more:∀{o c:Nat} {out:Out} {outs':List Out} {s:Nat} {Xm:List (Nat×Nat×Nat)} {ob ob':Obj},LK.oc? lk=some (o,c)→LK.id? lk=some o→iZ=(o,s,c)::Xm→Xm.map (fun x=>(x.1,x.2.2))=lks.filterMap LK.oc? →
     vY cfg st2 f (j+1) args=some outs'→st.L o=some ob→lK (st.setObj o ob') tag Xm outs'=some st3→(st3.L o=some ob'→Qm cfg f st st2 st3 tag j lk)→
     st3.sl=st.sl∧(∀o,o∉(lk::lks).filterMap LK.id? →st3.L o=st.L o)∧∀(i:Nat) lk',(lk::lks)[i]?=some lk'→Qm cfg f st st2 st3 tag (j+i) lk':=by
     intro o c out outs' s Xm ob ob' ho1 ho2 hle hle' e1' hLo e2' hout
     rw [List.filterMap_cons_some ho2] at hd
     simp only [Gj,Bool.or_eq_false_iff] at hd
     have hnot:o∉lks.filterMap LK.id? :=fun hm=>by
      have:=List.any_eq_false.1 hd.1 o hm
      simp at this
     obtain ⟨k1,k2,k3⟩:=U2 args vs lks (j+1) Xm outs' hA' hle' hd.2 e1' e2'
     have hne:∀{o'},o'∈lks.filterMap LK.id? →o'≠o:=fun hm e=>hnot (e ▸ hm)
     refine ⟨k1,fun o' ho'=>?_,fun i lk' hi=>?_⟩
     ·rw [List.filterMap_cons_some ho2] at ho'
      rw [k2 o' fun hm=>ho' (List.mem_cons_of_mem _ hm)]
      have:o'≠o:=fun e=>ho' (by rw [e];exact List.mem_cons_self)
      simp only [St.setObj,upd_ne _ _ this]
     ·cases i with
      | zero=>
       simp at hi;subst hi
       exact hout (by rw [k2 o hnot];simp [St.setObj,upd_same])
      | succ i=>
       have h1:=k3 i lk' (by simpa using hi)
       rw [show j+(i+1)=j+1+i by omega]
       have hmem:lk'∈lks:=List.mem_of_getElem? (by simpa using hi)
       cases lk' with
       | obj o'=>
        have:o'≠o:=hne (List.mem_filterMap.2 ⟨_,hmem,rfl⟩)
        obtain ⟨ob1,r1,r2⟩:=h1
        exact ⟨ob1,r1,by obtain ⟨cs,q1,q2⟩:=r2;refine ⟨cs,?_,q2⟩;simpa only [St.setObj,upd_ne _ _ this] using q1⟩
       | row o' c'=>
        have:o'≠o:=hne (List.mem_filterMap.2 ⟨_,hmem,rfl⟩)
        obtain ⟨ob1,ob2,s2,sz,es,x1,es1,q1,q2⟩:=h1
        exact ⟨ob1,ob2,s2,sz,es,x1,es1,by simpa only [St.setObj,upd_ne _ _ this] using q1,q2⟩
       | _=>trivial
    cases lk with
    | no=>
     obtain ⟨ag,as,⟨rfl,_⟩ | ⟨rfl,_⟩ | ⟨rfl,_⟩⟩:=h0<;>exact pass rfl rfl e1 fun _ _ _=>trivial
    | det=>
     obtain ⟨xs,us,_,_,_,⟨sz,es,rfl,_⟩ | ⟨cs,rfl,_⟩⟩:=h0<;>exact pass rfl rfl e1 fun _ _ _=>trivial
    | obj o=>
     obtain ⟨ob0,cs0,rfl,_⟩:=h0
     rw [List.filterMap_cons_some (show LK.oc? (LK.obj o)=some (o,0) from rfl)] at xY
     cases iZ with
     | nil=>simp at xY
     | cons l iZ=>
      obtain ⟨o',s,c'⟩:=l
      simp only [List.map_cons,List.cons.injEq,Prod.mk.injEq] at xY
      obtain ⟨⟨rfl,rfl⟩,xY⟩:=xY
      simp only [vY] at e1
      obtain ⟨ob2,hL2,e1⟩:=Option.bind_eq_some_iff.1 e1
      split at e1
      ·rename_i hc
       simp only [Bool.and_eq_true,Bool.not_eq_true'] at hc
       obtain ⟨⟨cs,t⟩,hfit,e1⟩:=Option.bind_eq_some_iff.1 e1
       split at e1
       ·rename_i ht
        have ht:=qH ht
        obtain ⟨outs',e1',e1⟩:=Option.map_eq_some_iff.1 e1
        subst e1
        simp only [lK] at e2
        obtain ⟨ob,hob,e2⟩:=Option.bind_eq_some_iff.1 e2
        have hL:=(xW hob).1
        refine more (c:=0) (out:= .ptr ob0.ag cs) rfl rfl rfl xY e1' hL e2 fun h3=>?_
        cases hm:cfg.par f j with
        | ptr ms=>
         rw [hm] at hfit
         exact ⟨ob,ob2,cs,hL,hL2,hc.1.1,hc.1.2,hc.2,KU hfit ht,h3⟩
        | _=>rw [hm] at hfit;cases hfit
       ·cases e1
      ·cases e1
    | row o c=>
     obtain ⟨ob0,s0,sz0,es0,rfl,_⟩:=h0
     rw [List.filterMap_cons_some (show LK.oc? (LK.row o c)=some (o,c) from rfl)] at xY
     cases iZ with
     | nil=>simp at xY
     | cons l iZ=>
      obtain ⟨o',s,c'⟩:=l
      simp only [List.map_cons,List.cons.injEq,Prod.mk.injEq] at xY
      obtain ⟨⟨rfl,rfl⟩,xY⟩:=xY
      simp only [vY] at e1
      obtain ⟨ob2,hL2,e1⟩:=Option.bind_eq_some_iff.1 e1
      split at e1
      ·rename_i hc
       simp only [Bool.and_eq_true,Bool.not_eq_true'] at hc
       split at e1
       ·rename_i s2 sz es hcs
        obtain ⟨outs',e1',e1⟩:=Option.map_eq_some_iff.1 e1
        subst e1
        simp only [lK] at e2
        obtain ⟨⟨ob,x⟩,hob,e2⟩:=Option.bind_eq_some_iff.1 e2
        have hL:=(eF hob).1
        have hx:=(eF hob).2.1
        split at e2
        ·rename_i hz
         have hxa:∃es1,x.a= .row sz es1:=by
          cases hxa:x.a with
          | row z es1=>
           simp only [hxa,AV.ZJ] at hz
           rw [beq_eq hz]
           exact ⟨_,rfl⟩
          | _=>simp [hxa,AV.ZJ] at hz
         obtain ⟨es1,hxa⟩:=hxa
         exact more (c:=c') (out:= .ow sz es) rfl rfl rfl xY e1' hL e2 fun h3=>⟨ob,ob2,s2,sz,es,x,es1,hL,hL2,hc.1.1,hc.1.2,hcs,hx,hxa,h3⟩
        ·cases e2
       ·cases e1
      ·cases e1
end
end
end Go.Sim
namespace Go.Sim
variable [Lim]
open Classical
set_option linter.unusedSimpArgs false
set_option linter.unusedVariables false
noncomputable section
def Gl (w:World) (Wc:Wit) (b:Nat):Prop:=w.heap.size≤b∨Wc.own b≠none
def vk (lks:List LK) (r:Option Nat) (d:Nat) (anW:Nat→Option nD) (b:Nat):Option nD:=
 match anW b with
 | some (.root j)=>if r=some j then some (.root d) else match lks[j]? with
  | some (.obj o)=>some (.root o)
  | _=>none
 | some (.cell j c)=>if r=some j then some (.det c) else match lks[j]? with
  | some (.obj o)=>some (.cell o c)
  | some (.row o c')=>if c=0 then some (.cell o c') else none
  | _=>none
 | some (.det k)=>if r=none then some (.det k) else none
 | some (.tr x)=>some (.tr x)
 | none=>none
def U3 (w:World) (W Wc W2:Wit) (lks:List LK) (r:Option Nat) (d:Nat):Wit where
 F:=fun t b=>W.F t b∨(Gl w Wc b∧W2.F 2 b)
 own:=fun b=>if Gl w Wc b then vk lks r d W2.own b else W.own b
 vals:=fun o=>match lkO lks o with
  | some j=>W2.vals j
  | none=>W.vals o
 blk:=W.blk
 fp:=fun o c=>match lkO lks o with
  | some j=>W2.fp j c
  | none=>match lkR lks o c with
   | some j=>W2.fp j 0
   | none=>W.fp o c
 us:=W.us
section
variable {P:Program} {cfg:Cfg} {aY:FuncId→List Arg→Option (Res×List Out)} {B:Base} {st st':St} {a:Act} {w:World} {W:Wit} {o:Oper} {nt f:Nat} {ops:Array Oper}
theorem U4 (h:Rel B st a w W) {T iot n d:Nat} {bor:List Nat} {args:List Arg} {vs:List Value} {lks:List LK} {db:Nat→Nat→Option Nat} (hA:ML w W st T iot bor args vs lks 0) (hio:iot≤T) (hd:Gj (lks.filterMap LK.id?)=false)
 {st2 st3:St} {a2:Act} {w':World} {Wc W2:Wit} (hWc:zf W lks vs T iot bor db=Wc) (hce:∀b,Wc.F 2 b→Wc.own b=none∧b<w.heap.size) (h2:Rel (jK w Wc n) st2 a2 w' W2) (hsl:st3.sl=st.sl) (hoth:∀o,o∉lks.filterMap LK.id? →st3.L o=st.L o)
 (hout:∀(i:Nat) lk,lks[i]?=some lk→Qm cfg f st st2 st3 iot i lk) {r:Option Nat} (hr:∀o,r=some o→∀ob,st2.L o=some ob→ob.io=false):
 Rel B st3 a w' (U3 w W Wc W2 lks r d)∧(∀b,Gl w Wc b→(U3 w W Wc W2 lks r d).own b=vk lks r d W2.own b)∧(∀t b,W2.F t b→(jK w Wc n).F t b∨(Gl w Wc b∧W2.F 2 b)∨2<t):=by
 have ZY:∀{b x},Wc.own b=some x→∃y,W.own b=some y:=by
  intro b x hb
  subst hWc
  exact JI hb
 have hsize:w.heap.size≤w'.heap.size:=h2.size
 have hkeep:∀b,b<w.heap.size→Wc.own b=none→w'.heap[b]?=w.heap[b]?:=fun b hb hn=>h2.frame b hb (by show ¬Wc.own b≠none;simp [hn])
 have hWF:∀b,W.F 2 b→¬Gl w Wc b∧w'.heap[b]?=w.heap[b]?:=by
  intro b hb
  have h1:=h.flt b hb
  have h3:Wc.own b=none:=by
   cases hc:Wc.own b with
   | none=>rfl
   | some x=>
    obtain ⟨y,hy⟩:=ZY hc
    rw [h.qF b hb] at hy;cases hy
  refine ⟨?_,hkeep b h1 h3⟩
  rintro (h4 | h4)
  ·omega
  ·exact h4 h3
 have adM:∀{b x},W2.own b=some x→Gl w Wc b:=fun hb=>(h2.olt _ _ hb).2
 have hF2:∀t b,t≤2→W2.F t b→W2.F 2 b:=by
  intro t b ht hb
  match t,ht with
  | 0,_=>exact h2.f12 b (h2.f01 b hb)
  | 1,_=>exact h2.f12 b hb
  | 2,_=>exact hb
 have adN:∀t b,t≤2→W2.F t b→Wc.F t b∨(Gl w Wc b∧W2.F 2 b):=by
  intro t b ht hb
  rcases h2.I9 t b hb with h1 | h1
  ·exact .inl h1
  ·exact .inr ⟨h1,hF2 t b ht hb⟩
 have hc0:Wc.F 0=W.F 0∧Wc.F 1=W.F (tg iot):=by subst hWc;exact ⟨rfl,rfl⟩
 have aiy:∀{j ob2},st2.L j=some ob2→ob2.io=true→W2.blk j=Wc.blk j∧(ob2.mem=false→W2.vals j=Wc.vals j):=fun hL hi=>h2.par _ _ hL hi
 let W3:=U3 w W Wc W2 lks r d
 have hF0:∀b,W2.F 0 b→∀t,t≤2→W3.F t b:=by
  intro b hb t ht
  rcases adN 0 b (by omega) hb with h1 | h1
  ·rw [hc0.1] at h1
   have h3:=h.fle (t:=0) (t':=t) (Nat.zero_le _) h1
   have h4:tg t=t:=by unfold tg;omega
   rw [h4] at h3
   exact .inl h3
  ·exact .inr h1
 have hF1:∀b,W2.F 1 b→W3.F (tg iot) b:=by
  intro b hb
  rcases adN 1 b (by omega) hb with h1 | h1
  ·rw [hc0.2] at h1;exact .inl h1
  ·exact .inr h1
 have hown3:∀b,Gl w Wc b→W3.own b=vk lks r d W2.own b:=fun b hb=>by
  show (if Gl w Wc b then _ else _)=_
  rw [if_pos hb]
 have Qn:∀b,¬Gl w Wc b→W3.own b=W.own b:=fun b hb=>by
  show (if Gl w Wc b then _ else _)=_
  rw [if_neg hb]
 have hrj:∀{j:Nat} {ob2:Obj},st2.L j=some ob2→ob2.io=true→¬r=some j:=by
  intro j ob2 hL hi he
  have:=hr j he ob2 hL
  rw [hi] at this;cases this
 have adO:∀{o j:Nat},lkO lks o=some j→∃ob ob2 cs,st.L o=some ob∧st2.L j=some ob2∧ob2.io=true∧ob2.mem=true∧ob2.fz=false∧UZ 1 ob2.cs cs∧ob.mem=true∧ob.fz=false∧W2.blk j=W.blk o∧
  st3.L o=some {ob with ctr:=ob.ctr+1,cs:=cs.map fun x=>⟨x.1.get,ob.ctr+1,(match x.1 with | .imm=>dm iot x.2 | _=>0),x.2⟩}:=by
  intro o j hj
  have hlk:=U0 hj
  obtain ⟨ob,ob2,cs,k1,k2,k3,k4,k5,k6,k7⟩:=hout j _ hlk
  have hlt:j<lks.length:=by
   rcases Nat.lt_or_ge j lks.length with h' | h'
   ·exact h'
   ·rw [List.getElem?_eq_none h'] at hlk;cases hlk
  have hx:args[j]?=some (args[j]'(by rw [←hA.len];exact hlt)):=List.getElem?_eq_getElem _
  have hv:vs[j]?=some (vs[j]'(by rw [hA.Qg,←hA.len];exact hlt)):=List.getElem?_eq_getElem _
  obtain ⟨ob',cs',_,m2,m3,m4,_⟩:=hA.at_ j _ _ _ hx hv hlk
  rw [k1] at m2;cases m2
  have hb:=(aiy k2 k3).1
  have hb':Wc.blk j=W.blk o:=by subst hWc;simp [zf,hlk]
  exact ⟨ob,ob2,cs,k1,k2,k3,k4,k5,k6,m3,m4,hb.trans hb',k7⟩
 have adP:∀{o c j:Nat},lkR lks o c=some j→∃ob ob2 s2 sz es s0 es0 v,lkO lks o=none∧st.L o=some ob∧st2.L j=some ob2∧ob2.io=true∧ob2.cs=[⟨.sh,s2,0,.row sz es⟩]∧ob.cs[c]?=some ⟨.sh,s0,0,es0⟩∧(W.vals o)[c]?=some v∧W2.vals j=[v]∧
  (∃es1,es0= .row sz es1)∧st3.L o=some {ob with cs:=ob.cs.set c ⟨.sh,s0,0,.row sz es⟩}:=by
  intro o c j hj
  have hlk:=EP hj
  obtain ⟨ob,ob2,s2,sz,es,x,es1,k1,k2,k3,k4,k5,k8,k9,k6⟩:=hout j _ hlk
  have hlt:j<lks.length:=by
   rcases Nat.lt_or_ge j lks.length with h' | h'
   ·exact h'
   ·rw [List.getElem?_eq_none h'] at hlk;cases hlk
  have hx:args[j]?=some (args[j]'(by rw [←hA.len];exact hlt)):=List.getElem?_eq_getElem _
  have hv:vs[j]?=some (vs[j]'(by rw [hA.Qg,←hA.len];exact hlt)):=List.getElem?_eq_getElem _
  obtain ⟨ob',s0,sz0,es0,_,m2,m3,m4⟩:=hA.at_ j _ _ _ hx hv hlk
  rw [k1] at m2;cases m2
  have hvv:Wc.vals j=((W.vals o)[c]?).toList:=by subst hWc;simp [zf,hlk]
  rw [m3] at k8;cases k8
  refine ⟨ob,ob2,s2,sz,es,s0,_,_,(Qi hd hlk).2,k1,k2,k3,k5,m3,m4,?_,⟨es1,k9⟩,k6⟩
  rw [(aiy k2 k3).2 k4,hvv,m4];rfl
 have hnone:∀{o:Nat},lkO lks o=none→(∀c,lkR lks o c=none)→st3.L o=st.L o:=by
  intro o h1 h3
  refine hoth o fun hm=>?_
  obtain ⟨lk,hm1,hm2⟩:=List.mem_filterMap.1 hm
  obtain ⟨i,hi⟩:=List.getElem?_of_mem hm1
  cases lk with
  | obj o'=>cases hm2;rw [Qh hd hi] at h1;cases h1
  | row o' c=>cases hm2;have:=(Qi hd hi).1;rw [h3 c] at this;cases this
  | _=>cases hm2
 have Ui:∀{o b:Nat} {x:nD},W.own b=some x→ownIn lks W.own b=none→W3.own b=some x∧w'.heap[b]?=w.heap[b]?:=by
  intro o b x hb hn
  have hcn:Wc.own b=none:=by subst hWc;exact hn
  have hlt:=(h.olt b x hb).1
  have hnn:¬Gl w Wc b:=by
   rintro (h1 | h1)
   ·omega
   ·exact h1 hcn
  exact ⟨by rw [Qn b hnn];exact hb,hkeep b hlt hcn⟩
 have hF:∀t b,W.F (tg t) b→W3.F (tg t) b∧w'.heap[b]?=w.heap[b]?:=fun t b hb=>⟨.inl hb,(hWF b (h.f2 hb)).2⟩
 have hvO:∀{o j:Nat},lkO lks o=some j→W3.vals o=W2.vals j∧∀c,W3.fp o c=W2.fp j c:=by
  intro o j hj
  constructor
  ·show (match lkO lks o with | some j=>W2.vals j | none=>W.vals o)=_
   rw [hj]
  ·intro c
   show (match lkO lks o with | some j=>W2.fp j c | none=>_)=_
   rw [hj]
 have hvN:∀{o:Nat},lkO lks o=none→W3.vals o=W.vals o∧(∀c j,lkR lks o c=some j→W3.fp o c=W2.fp j 0)∧∀c,lkR lks o c=none→W3.fp o c=W.fp o c:=by
  intro o hj
  refine ⟨?_,fun c j hc=>?_,fun c hc=>?_⟩
  ·show (match lkO lks o with | some j=>W2.vals j | none=>W.vals o)=_
   rw [hj]
  ·show (match lkO lks o with | some j=>W2.fp j c | none=>match lkR lks o c with | some j=>W2.fp j 0 | none=>W.fp o c)=_
   rw [hj,hc]
  ·show (match lkO lks o with | some j=>W2.fp j c | none=>match lkR lks o c with | some j=>W2.fp j 0 | none=>W.fp o c)=_
   rw [hj,hc]
 have hsome:∀o,(∃j,lkO lks o=some j)∨(lkO lks o=none∧∃c j,lkR lks o c=some j)∨(lkO lks o=none∧∀c,lkR lks o c=none):=by
  intro o
  cases h1:lkO lks o with
  | some j=>exact .inl ⟨j,rfl⟩
  | none=>
   by_cases h3:∃c j,lkR lks o c=some j
   ·exact .inr (.inl ⟨rfl,h3⟩)
   ·refine .inr (.inr ⟨rfl,fun c=>?_⟩)
    cases h4:lkR lks o c with
    | none=>rfl
    | some j=>exact absurd ⟨c,j,h4⟩ h3
 have hR1:∀{o c c' j j':Nat},lkR lks o c=some j→lkR lks o c'=some j'→c=c':=by
  intro o c c' j j' h1 h3
  have:=IP hd (EP h1) (EP h3) rfl rfl
  subst this
  have:=(EP h1).symm.trans (EP h3)
  cases this;rfl
 have hbk:∀{b x},W3.own b=some x→Gl w Wc b→∃y,W2.own b=some y:=by
  intro b x hb hn
  rw [hown3 b hn] at hb
  cases hy:W2.own b with
  | none=>simp [vk,hy] at hb
  | some y=>exact ⟨y,rfl⟩
 have hD:TrK w w' W W3:=by
  refine ⟨fun b hb=>?_,fun b hb=>?_⟩
  ·have hcn:Wc.own b=none:=by subst hWc;simp [zf,ownIn,hb]
   have hlt:=(h.olt b _ hb).1
   have hnn:¬Gl w Wc b:=by
    rintro (h1 | h1)
    ·omega
    ·exact h1 hcn
   exact ⟨by rw [Qn b hnn];exact hb,hkeep b hlt hcn⟩
  ·have hct:Wc.own b=some (.tr true):=by subst hWc;simp [zf,ownIn,hb]
   obtain ⟨q1,q2⟩:=h2.tsh b hct
   exact ⟨by rw [hown3 b (.inr (by rw [hct];intro e;cases e))];simp [vk,q1],q2⟩
 have huf:∀b,W3.F 2 b→W.F 2 b∨Dx w' b:=by
  rintro b (hb | ⟨hn,hb⟩)
  ·exact .inl hb
  ·rcases h2.uf b hb with h1 | h1
   ·obtain ⟨q1,q2⟩:=hce b h1
    rcases hn with hn | hn
    ·omega
    ·exact absurd q1 hn
   ·exact .inr h1
 have hou:∀b x,W3.own b=some x→((∃y,W.own b=some y)∧MC (w.heap[b]?) (w'.heap[b]?))∨Dx w' b:=by
  intro b x hb
  by_cases hn:Gl w Wc b
  ·obtain ⟨y,hy⟩:=hbk hb hn
   exact .inr (h2.ouf b y hy)
  ·rw [Qn b hn] at hb
   refine .inl ⟨⟨x,hb⟩,.inl (hkeep b (h.olt b x hb).1 ?_)⟩
   cases hc:Wc.own b with
   | none=>rfl
   | some y=>exact absurd (.inr (by rw [hc];intro e;cases e)) hn
 refine ⟨?_,hown3,fun t b hb=>?_⟩
 ·have hst3:st3={st with L:=st3.L}:=by cases st3;simp only at hsl;subst hsl;rfl
  rw [hst3]
  refine h.step (hio:=h2.io) (L':=st3.L) (w':=w') (W':=W3) (fun t b hb=> .inl hb) (fun b hb=>hb.imp (h.f01 b) id) (fun b hb=>hb.imp (h.f12 b) id) ?_ ?_ ?_ ?_ (fun b hb=>(hWF b hb).2) ?_ ?_ ?_ ?_ hsize hD huf hou
  ·rintro t b (hb | ⟨hb,_⟩)
   ·exact .inl hb
   ·rcases hb with hb | hb
    ·exact .inr (.inl (Nat.le_trans h.size hb))
    ·cases hc:Wc.own b with
     | none=>exact absurd hc hb
     | some x=>
      obtain ⟨y,hy⟩:=ZY hc
      exact .inr (h.olt b y hy).2
  ·rintro b (hb | ⟨hb,hb2⟩)
   ·rw [Qn b (hWF b hb).1];exact h.qF b hb
   ·rw [hown3 b hb];simp [vk,h2.qF b hb2]
  ·rintro b (hb | ⟨hb,hb2⟩)
   ·exact Nat.lt_of_lt_of_le (h.flt b hb) hsize
   ·exact h2.flt b hb2
  ·intro b x hb
   by_cases hn:Gl w Wc b
   ·rw [hown3 b hn] at hb
    have:∃y,W2.own b=some y:=by
     cases hy:W2.own b with
     | none=>simp [vk,hy] at hb
     | some y=>exact ⟨y,rfl⟩
    obtain ⟨y,hy⟩:=this
    refine ⟨(h2.olt b y hy).1,?_⟩
    rcases hn with hn | hn
    ·exact .inl (Nat.le_trans h.size hn)
    ·cases hc:Wc.own b with
     | none=>exact absurd hc hn
     | some x=>
      obtain ⟨y,hy⟩:=ZY hc
      exact (h.olt b y hy).2
   ·rw [Qn b hn] at hb
    exact ⟨Nat.lt_of_lt_of_le (h.olt b x hb).1 hsize,(h.olt b x hb).2⟩
  ·
   intro o ob hL
   rcases hsome o with ⟨j,hj⟩ | ⟨h1,c,j,hj⟩ | ⟨h1,h3⟩
   ·obtain ⟨ob',ob2,cs,k1,k2,k3,k4,k5,k6,k7,k8,k9,k10⟩:=adO hj
    rw [hL] at k1;cases k1
    refine ⟨_,k10,Nat.le_succ _,Nat.le_refl _,fun c x' hx'=>?_,fun _=>⟨rfl,rfl⟩⟩
    simp only [List.getElem?_map] at hx'
    obtain ⟨y,_,rfl⟩:=Option.map_eq_some_iff.1 hx'
    exact .inl (Nat.lt_succ_self _)
   ·obtain ⟨ob',ob2,s2,sz,es,s0,es0,v,k0,k1,k2,k3,k4,k5,k6,k7,⟨es1,k9⟩,k8⟩:=adP hj
    rw [hL] at k1;cases k1
    refine ⟨_,k8,Nat.le_refl _,Nat.le_refl _,fun c' x' hx'=>?_,fun _=>⟨rfl,rfl⟩⟩
    by_cases e:c=c'
    ·subst e
     have hcl:c<ob.cs.length:=by
      rcases Nat.lt_or_ge c ob.cs.length with h' | h'
      ·exact h'
      ·rw [List.getElem?_eq_none h'] at k5;cases k5
     simp only [List.getElem?_set_self hcl] at hx'
     cases hx'
     subst k9
     have q1:kJ w (W.F (tg 0)) sz es1 v (W.fp o c):=((h.iJ o ob hL).cells c ⟨.sh,s0,0,.row sz es1⟩ v k5 k6).1
     have q2:kJ w' (W2.F (tg 0)) sz es v (W2.fp j 0):=((h2.iJ j ob2 k2).cells 0 ⟨.sh,s2,0,.row sz es⟩ v (by rw [k4];rfl) (by rw [k7];rfl)).1
     have q3:es1.length=es.length:=by
      obtain ⟨_,_,e1,_⟩:=q1.slice
      obtain ⟨_,_,e2,_⟩:=q2.slice
      rw [e1] at e2
      injection e2
     refine .inr ⟨_,k5,rfl,by rw [(hvN h1).1],fun _=>⟨(by intro e;cases e),fun sz' es' he'=>?_⟩,qG.none rfl⟩
     cases he'
     exact ⟨es1,rfl,q3⟩
    ·simp only [List.getElem?_set_ne e] at hx'
     exact .inr ⟨x',hx',rfl,by rw [(hvN h1).1],fun hm=>⟨hm,fun _ es he=>⟨es,he,rfl⟩⟩,qG.same rfl⟩
   ·exact ⟨ob,by rw [hnone h1 h3];exact hL,Nat.le_refl _,Nat.le_refl _,fun c x hx=> .inr ⟨x,hx,rfl,by rw [(hvN h1).1],fun hm=>⟨hm,fun _ es he=>⟨es,he,rfl⟩⟩,qG.same rfl⟩,fun _=>⟨rfl,rfl⟩⟩
  ·
   intro o ob' hL hi
   rcases hsome o with ⟨j,hj⟩ | ⟨h1,c,j,hj⟩ | ⟨h1,h3⟩
   ·obtain ⟨ob,ob2,cs,k1,k2,k3,k4,k5,k6,k7,k8,k9,k10⟩:=adO hj
    rw [k10] at hL;cases hL
    exact ⟨ob,k1,hi,rfl,rfl,fun hm=>by rw [k7] at hm;cases hm⟩
   ·obtain ⟨ob,ob2,s2,sz,es,s0,es0,v,k0,k1,k2,k3,k4,k5,k6,k7,⟨es1,k9⟩,k8⟩:=adP hj
    rw [k8] at hL;cases hL
    exact ⟨ob,k1,hi,rfl,rfl,fun _=>(hvN h1).1⟩
   ·rw [hnone h1 h3] at hL
    exact ⟨ob',hL,hi,rfl,rfl,fun _=>(hvN h1).1⟩
  ·
   intro o ob' hL
   rcases hsome o with ⟨j,hj⟩ | ⟨h1,c,j,hj⟩ | ⟨h1,h3⟩
   ·obtain ⟨ob,ob2,cs,k1,k2,k3,k4,k5,k6,k7,k8,k9,k10⟩:=adO hj
    rw [k10] at hL;cases hL
    obtain ⟨e1,e2⟩:=hvO hj
    have ho2:=h2.iJ j ob2 k2
    have hne:=hrj k2 k3
    have hlk:=U0 hj
    refine ⟨by rw [e1,ho2.len,k6.1];simp,fun c x v hx hv=>?_,fun _=>?_,(fun hf=>by rw [k8] at hf;cases hf),fun x hx=>?_⟩
    ·rw [e1] at hv
     simp only [List.getElem?_map] at hx
     obtain ⟨⟨m,y⟩,hc,rfl⟩:=Option.map_eq_some_iff.1 hx
     obtain ⟨s,t,hx0,hcase⟩:=k6.2 c m y hc
     have hok:=ho2.cells c _ v hx0 hv
     rcases hcase with ⟨rfl,ht⟩ | ⟨rfl,rfl⟩ | ⟨rfl,ht⟩
     ·show CRi w' (W3.F (tg (dm (dm iot y) y))) [y] [v]
      have conv:CRi w' (W2.F (tg (dm t y))) [y] [v]→CRi w' (W3.F (tg iot)) [y] [v]:=fun hk=>hk.mono fun b hb=>⟨by
       have:dm t y=0∨dm t y=1:=by omega
       rcases this with e | e<;>rw [e] at hb
       ·exact hF0 b hb (tg iot) (by unfold tg;omega)
       ·exact hF1 b hb,rfl⟩
      cases y with
      | sc u=>cases hok with | sc hp _=>exact .sc hp .nil
      | _=>exact conv hok
     ·cases y with
      | row sz es=>
       obtain ⟨q1,q2⟩:=hok
       refine ⟨?_,fun b hb=>?_⟩
       ·rw [e2 c];exact q1.mono (fun b hb=>⟨hF0 b hb 0 (by omega),rfl⟩) fun b hb=>rfl
       ·rw [e2 c] at hb
        have:=q2 b hb
        rw [hown3 b (adM this)]
        simp [vk,this,hne,hlk]
      | _=>exact hok.elim
     ·show CRi w' (W3.F (tg (dm 0 y))) [y] [v]
      have hok:CRi w' (W2.F (tg (dm t y))) [y] [v]:=hok
      rw [ht] at hok
      have e0:dm 0 y=0:=by cases y<;>rfl
      rw [e0]
      exact hok.mono fun b hb=>⟨hF0 b hb 0 (by omega),rfl⟩
    ·obtain ⟨arr,T',fr,q1,q2,q3,q4,q5⟩:=ho2.mem k4
     refine ⟨arr,T',fr,by show w'.heap[W.blk o]?=_;rw [←k9];exact q1,by rw [e1];exact q2,q3,fun _=>?_,(fun hf=>by rw [k8] at hf;cases hf)⟩
     have:=q4 k5
     show W3.own (W.blk o)=_
     rw [←k9,hown3 _ (adM this)]
     simp [vk,this,hne,hlk]
    ·obtain ⟨y,_,rfl⟩:=List.mem_map.1 hx
     exact Nat.le_refl _
   ·obtain ⟨ob,ob2,s2,sz,es,s0,es0,v,k0,k1,k2,k3,k4,k5,k6,k7,⟨es1,k9⟩,k8⟩:=adP hj
    rw [k8] at hL;cases hL
    obtain ⟨e1,e2,e3⟩:=hvN h1
    have ho:=h.iJ o ob k1
    have ho2:=h2.iJ j ob2 k2
    have hne:=hrj k2 k3
    have hlk:=EP hj
    have hcl:c<ob.cs.length:=by
     rcases Nat.lt_or_ge c ob.cs.length with h' | h'
     ·exact h'
     ·rw [List.getElem?_eq_none h'] at k5;cases k5
    have hfz:ob.fz=false:=by
     cases hf:ob.fz
     ·rfl
     ·exact absurd (ho.fz hf _ (List.mem_of_getElem? k5)) (by simp)
    refine ⟨by rw [e1,ho.len];simp,fun c' x v' hx hv=>?_,fun hm=>?_,(fun hf=>by rw [hfz] at hf;cases hf),fun x hx=>?_⟩
    ·rw [e1] at hv
     by_cases e:c=c'
     ·subst e
      simp only [List.getElem?_set_self hcl] at hx
      cases hx
      rw [k6] at hv;cases hv
      obtain ⟨q1,q2⟩:=ho2.cells 0 _ v (by rw [k4];rfl) (by rw [k7];rfl)
      refine ⟨?_,fun b hb=>?_⟩
      ·rw [e2 c j hj];exact q1.mono (fun b hb=>⟨hF0 b hb 0 (by omega),rfl⟩) fun b hb=>rfl
      ·rw [e2 c j hj] at hb
       have:=q2 b hb
       rw [hown3 b (adM this)]
       simp [vk,this,hne,hlk]
     ·simp only [List.getElem?_set_ne e] at hx
      have hc':lkR lks o c'=none:=by
       cases hc':lkR lks o c' with
       | none=>rfl
       | some j'=>exact absurd (hR1 hj hc') e
      have hok:=ho.cells c' x v' hx hv
      obtain ⟨m,s',t',y⟩:=x
      cases m with
      | imm=>exact CRi.mono (fun b hb=>hF _ b hb) hok
      | gone=>trivial
      | ws=>exact CRs.mono (fun b hb=>hD.2 b hb) hok
      | fr=>exact CRi.mono (fun b hb=>hD.1 b hb) hok
      | sh=>
       cases y with
       | row sz' es'=>
        obtain ⟨q1,q2⟩:=hok
        have hst:∀b,W.fp o c'=some b→W3.own b=some (.cell o c')∧w'.heap[b]?=w.heap[b]?:=fun b hb=>Ui (o:=o) (q2 b hb) (by simp [ownIn,q2 b hb,h1,hc'])
        refine ⟨?_,fun b hb=>?_⟩
        ·rw [e3 c' hc'];exact q1.mono (fun b hb=>hF _ b hb) fun b hb=>(hst b hb).2
        ·rw [e3 c' hc'] at hb;exact (hst b hb).1
       | _=>exact hok.elim
      | dp _=>
       cases y with
       | row sz' es'=>
        obtain ⟨bs,q1,qn,q2⟩:=hok
        have hst:∀b∈bs,W3.own b=some (.cell o c')∧w'.heap[b]?=w.heap[b]?:=fun b hb=>Ui (o:=o) (q2 b hb) (by simp [ownIn,q2 b hb,h1,hc'])
        exact ⟨bs,q1.mono (fun b hb=>hF _ b hb) (fun b hb=>(hst b hb).2),qn,fun b hb=>(hst b hb).1⟩
       | _=>exact hok.elim
      | dd _ _ _=>
       cases y with
       | row sz' es'=>
        obtain ⟨bs,q1,qn,q2⟩:=hok
        have hst:∀b∈bs,W3.own b=some (.cell o c')∧w'.heap[b]?=w.heap[b]?:=fun b hb=>Ui (o:=o) (q2 b hb) (by simp [ownIn,q2 b hb,h1,hc'])
        exact ⟨bs,q1.mono (fun b hb=>hF _ b hb) (fun b hb=>(hst b hb).2),qn,fun b hb=>(hst b hb).1⟩
       | _=>exact hok.elim
    ·obtain ⟨arr,T',fr,q1,q2,q3,q4,q5⟩:=ho.mem hm
     have hst:=Ui (o:=o) (q4 hfz) (by simp [ownIn,q4 hfz,h1])
     exact ⟨arr,T',fr,by show w'.heap[W.blk o]?=_;rw [hst.2];exact q1,by rw [e1];exact q2,q3,fun _=>hst.1,(fun hf=>by rw [hfz] at hf;cases hf)⟩
    ·rcases List.mem_or_eq_of_mem_set hx with hx | hx
     ·exact ho.ctr x hx
     ·subst hx;exact ho.ctr ⟨.sh,s0,0,es0⟩ (List.mem_of_getElem? k5)
   ·rw [hnone h1 h3] at hL
    obtain ⟨e1,e2,e3⟩:=hvN h1
    refine (h.iJ o ob' hL).keep hF e1 rfl (fun c=>e3 c (h3 c)) (fun _=>rfl) (fun c b hb=>Ui (o:=o) hb (by simp [ownIn,hb,h1,h3 c])) (fun hm=>?_) hD
    obtain ⟨arr,T',fr,q1,q2,q3,q4,q5⟩:=(h.iJ o ob' hL).mem hm
    cases hf:ob'.fz with
    | false=>
     have hst:=Ui (o:=o) (q4 hf) (by simp [ownIn,q4 hf,h1])
     exact ⟨hst.2,fun _=>hst.1⟩
    | true=>exact ⟨(hF 0 _ (q5 hf)).2,fun e=>by cases e⟩
  ·intro b hb hl
   refine hkeep b (Nat.lt_of_lt_of_le hb h.size) ?_
   cases hc:Wc.own b with
   | none=>rfl
   | some x=>
    obtain ⟨y,hy⟩:=ZY hc
    rcases (h.olt b y hy).2 with h5 | h5
    ·omega
    ·exact absurd h5 hl
 ·by_cases ht:t≤2
  ·rcases adN t b ht hb with h1 | h1
   ·exact .inl h1
   ·exact .inr (.inl h1)
  ·exact .inr (.inr (by omega))
end
end
end Go.Sim
