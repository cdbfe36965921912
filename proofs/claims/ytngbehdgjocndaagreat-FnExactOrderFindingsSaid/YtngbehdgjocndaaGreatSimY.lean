/- The machine is sound: what it answers, a call answers. Conditions: none. -/
import Derived.Test.YtngbehdgjocndaaGreatSimW
namespace Go.Sim
variable [Lim]
open Classical
set_option linter.unusedSimpArgs false
set_option linter.unusedVariables false
noncomputable section
section
variable {P:Program} {cfg:Cfg} {aY:FuncId→List Arg→Option (Res×List Out)} {B:Base} {st st':St} {a:Act} {w:World} {W:Wit} {o:Oper} {nt f:Nat} {ops:Array Oper}
omit [Lim] in
theorem JL {d:Nat} {mt:Nat→Option Nat} {res:Res} (hnp:∀ag cs,res≠[(false,[.pt ag cs])]):
 st.unpack (some d) mt res=(uX d (st.sG d) mt res []).map (fun q=>(st.Dw d q.2).cZ d (F6 q.1)):=by
 unfold St.unpack
 simp only
theorem Xp (hF:Ql P cfg aY) (hB:BOK cfg.gb B) (h:Rel B st a w W) {dst:Option Tmp} (hd:∀d,dst=some d→d<B.nt) {xs:List (TypeId×SV)} {vs:List Value} (hs:SRs w W st.L xs vs) (e:st.wB P cfg aY dst f xs=some st'):
 Calls P f vs.toArray w fun e w'=>∃v,e= .returned v∧∃W',Rel B st' (a.put dst v) w' W':=by
 unfold St.wB at e
 obtain ⟨⟨pre,st1⟩,e1,e⟩:=Option.bind_eq_some_iff.1 e
 obtain ⟨p,e2,e⟩:=Option.bind_eq_some_iff.1 e
 split at e
 ·cases e
 ·rename_i hc
  have hc:overlap p.bor (p.iZ.map (·.1))=false∧Gj (p.iZ.map (·.1))=false:=by simpa [Bool.or_eq_false_iff] using hc
  obtain ⟨⟨res,outs⟩,e3,e⟩:=Option.bind_eq_some_iff.1 e
  obtain ⟨W1,hq,hfix⟩:=Qe xs vs h hs e1
  have h1:=hq.1
  obtain ⟨lks,hA,xY,hlen⟩:=Ug (T:=Nat.max p.tag p.fO) (iot:=p.fO) (bor:=p.bor) h1 xs vs (j:=0) (hs.quiet hq) hfix e2 (Nat.le_max_left _ _) (Nat.le_refl _) (fun o ho=>ho)
  have anY:p.iZ.map (·.1)=lks.filterMap LK.id? :=by
   rw [←abU,←xY,List.map_map]
   rfl
  rw [anY] at hc
  have aiz:∀q∈cfg.gb,W1.own q.1=none∧q.1<w.heap.size∧∃arr T fr,w.heap[q.1]?=some (.cells arr T fr)∧q.2 arr:=by
   intro q hq
   obtain ⟨b1,b2,arr,T,fr,b3,b4⟩:=hB.2 q hq
   refine ⟨?_,Nat.lt_of_lt_of_le b1 h1.size,arr,T,fr,(h1.frame _ b1 b2).trans b3,b4⟩
   cases hx:W1.own q.1 with
   | none=>rfl
   | some x=>
    rcases (h1.olt _ x hx).2 with b5 | b5
    ·omega
    ·exact absurd b5 b2
  have hlim:Lim.n≤w.heap.size:=Nat.le_trans hB.1 h1.size
  have hBn:BOK cfg.gb (jK w (xu W1 (Nat.max p.tag p.fO) p.bor) 0):=by
   refine ⟨hlim,fun q hq=>?_⟩
   obtain ⟨g1,g2,arr,T,fr,g3,g4⟩:=aiz q hq
   exact ⟨g2,(fun hl=>hl rfl),arr,T,fr,g3,g4⟩
  split at e
  ·rename_i hfr
   simp only [Bool.and_eq_true] at hfr
   obtain ⟨res',hq1,e⟩:=Option.bind_eq_some_iff.1 e
   obtain ⟨d,rfl⟩:∃d,dst=some d:=by
    cases dst with
    | none=>cases hfr.1
    | some d=>exact ⟨d,rfl⟩
   refine Calls.mono (hF f p.args res outs e3 w vs _ hA.Qg hBn (fun n hn=>Ul h1 hA hfr.2 n hn)) fun x w' hx=>?_
   obtain ⟨v,n,rfl,st2,a2,W2,us,hr2,hret,rfl,adS⟩:=hx
   have hret:En w' W2 0 res us:=by
    rcases hret with ⟨o,ob,cs,v,rfl,_⟩ | hret
    ·cases hq1
    ·exact hret
   obtain ⟨W3,k1,k2⟩:=adR h1 hr2 hlim hret hq1
   have hnp:∀ag cs,res'≠[(false,[.pt ag cs])]:=by
    intro ag cs e0
    subst e0
    cases k2 with
    | one h1 _=>cases h1
   rw [JL hnp] at e
   obtain ⟨q,hq1,hq2⟩:=Option.map_eq_some_iff.1 e
   subst hq2
   exact ⟨_,rfl,Uk (W2:={W3 with F:=fun _ _=>False}) k1 (hd d rfl) rfl (fun t t' _ b hb=>hb.elim) (fun b k hb=>hb) k2 hq1⟩
  split at e
  ·rename_i hfr
   simp only [Bool.and_eq_true] at hfr
   obtain ⟨q,hq1,e⟩:=Option.bind_eq_some_iff.1 e
   obtain ⟨d,hdd,e4⟩:=Option.map_eq_some_iff.1 e
   clear e
   subst hdd e4
   refine Calls.mono (hF f p.args res outs e3 w vs _ hA.Qg hBn (fun n hn=>Ul h1 hA hfr.2 n hn)) fun x w' hx=>?_
   obtain ⟨v,n,rfl,st2,a2,W2,us,hr2,hret,rfl,adS⟩:=hx
   refine ⟨_,rfl,_,(adQ h1 hr2).put (hd d rfl) (Qp (Xo h1 hr2 res us (k:=0) ?_ hq1))⟩
   rcases hret with ⟨o,ob,cs,v,rfl,_⟩ | hret
   ·cases hq1
   ·exact hret
  obtain ⟨st3,e4,e⟩:=Option.bind_eq_some_iff.1 e
  simp only at e2 e3 e4 e
  obtain ⟨db,hent⟩:=adJ h1 hA (Nat.le_max_right _ _) hc.2 hc.1
  have hce:∀b,(zf W1 lks vs (Nat.max p.tag p.fO) p.fO p.bor db).F 2 b→(zf W1 lks vs (Nat.max p.tag p.fO) p.fO p.bor db).own b=none∧b<w.heap.size:=fun b hb=>⟨(hent vs.length (Nat.le_refl _)).qF b hb,(hent vs.length (Nat.le_refl _)).flt b hb⟩
  have hBc:BOK cfg.gb (jK w (zf W1 lks vs (Nat.max p.tag p.fO) p.fO p.bor db) 0):=by
   refine ⟨hlim,fun q hq=>?_⟩
   obtain ⟨hn,g2,arr,T,fr,g3,g4⟩:=aiz q hq
   exact ⟨g2,(fun hl=>hl (by simp [zf,ownIn,hn])),arr,T,fr,g3,g4⟩
  refine Calls.mono (hF f p.args res outs e3 w vs _ hA.Qg hBc (fun n hn=>hent n hn)) fun x w' hx=>?_
  obtain ⟨v,n,rfl,st2,a2,W2,us,hr2,hret,rfl,adS⟩:=hx
  refine ⟨_,rfl,?_⟩
  obtain ⟨k1,k2,k3⟩:=U2 p.args vs lks 0 p.iZ outs (st:=st1) hA xY hc.2 adS e4
  have hout:∀(i:Nat) lk,lks[i]?=some lk→Qm cfg f st1 st2 st3 p.fO i lk:=fun i lk hi=>by
   have:=k3 i lk hi
   rwa [Nat.zero_add] at this
  have htag:∀{W3:Wit},(∀b t,W3.F t b↔(W1.F t b∨(Gl w (zf W1 lks vs (Nat.max p.tag p.fO) p.fO p.bor db) b∧W2.F 2 b)))→
   (∀t b,W2.F t b→(jK w (zf W1 lks vs (Nat.max p.tag p.fO) p.fO p.bor db) n).F t b∨(Gl w (zf W1 lks vs (Nat.max p.tag p.fO) p.fO p.bor db) b∧W2.F 2 b)∨2<t)→
   ∀t t',DV (!p.bor.isEmpty) p.tag p.fO t=some t'→∀b,W2.F (tg t) b→W3.F (tg t') b:=by
   intro W3 hW3 hsp t t' ht b hb
   rw [hW3]
   rcases hsp _ b hb with q | q | q
   ·match t,ht,q with
    | 0,ht,q=>
     cases ht
     exact .inl q
    | 1,ht,q=>
     cases ht
     exact .inl q
    | t+2,ht,q=>
     simp only [DV] at ht
     cases ajt:p.bor with
     | cons _ _=>rw [ajt] at ht;cases ht
     | nil=>
      rw [ajt] at ht
      cases ht
      have e2:tg (t+2)=2:=by unfold tg;omega
      rw [e2] at q
      rcases q with q | ⟨o,ho,_⟩
      ·exact .inl q
      ·rw [ajt] at ho;cases ho
   ·exact .inr q
   ·have:tg t≤2:=by unfold tg;omega
    omega
  cases dst with
  | none=>
   simp only [St.unpack,Option.some.injEq] at e
   subst e
   obtain ⟨r1,_⟩:=U4 (d:=0) (r:=none) h1 hA (Nat.le_max_right _ _) hc.2 rfl hce hr2 k1 k2 hout (fun o' ho'=>by cases ho')
   exact ⟨_,r1⟩
  | some d=>
   have hdn:=hd d rfl
   rcases hret with ⟨o,ob,cs,v,rfl,rfl,q1,q2,q3,q4,q5,rfl⟩ | hret
   ·obtain ⟨r1,r2,r3⟩:=U4 (d:=d) (r:=some o) h1 hA (Nat.le_max_right _ _) hc.2 rfl hce hr2 k1 k2 hout (fun o' ho' ob' als=>by
     cases ho'
     rw [q1] at als;cases als;exact q4)
    simp only [St.unpack] at e
    obtain ⟨cs',hcs,e⟩:=Option.map_eq_some_iff.1 e
    subst e
    exact U5 r1 hdn (htag (fun b t=>Iff.rfl) r3) hr2 q1 q2 q3 q5 hcs (fun b hb=>by rw [r2 b (hr2.olt b _ hb).2];simp [vk,hb]) (fun b c hb=>by rw [r2 b (hr2.olt b _ hb).2];simp [vk,hb])
   ·obtain ⟨r1,r2,r3⟩:=U4 (d:=d) (r:=none) h1 hA (Nat.le_max_right _ _) hc.2 rfl hce hr2 k1 k2 hout (fun o' ho'=>by cases ho')
    have hnp:∀ag cs,res≠[(false,[.pt ag cs])]:=by
     intro ag cs e0
     subst e0
     cases hret with
     | one h1 _=>cases h1
    rw [JL hnp] at e
    obtain ⟨q,hq1,hq2⟩:=Option.map_eq_some_iff.1 e
    subst hq2
    exact Uk r1 hdn rfl (htag (fun b t=>Iff.rfl) r3) (fun b k hb=>by rw [r2 b (hr2.olt b _ hb).2];simp [vk,hb]) hret hq1
theorem Rel.grow (h:Rel B st a w W) {r:RV} {v:Value} (hr:RR w W st.L r v):Rel {B with nt:=B.nt+1} (st.ws fun t=>if t<B.nt then st.sl t else if t=B.nt then .v false [r] else st.sl (t - 1)) {a with tmps:=a.tmps.push v} w W:=
 {h with
  slots:=fun t=>by
   have hs:=h.tmps
   show SR w W st.L (if t<B.nt then st.sl t else if t=B.nt then .v false [r] else st.sl (t - 1)) ((a.tmps.push v).getD t undef)
   by_cases c1:t<B.nt
   ·rw [if_pos c1]
    have e:(a.tmps.push v).getD t undef=a.tmps.getD t undef:=by
     simp only [Array.getD_eq_getD_getElem?]
     rw [Array.getElem?_push]
     rw [if_neg (by omega)]
    rw [e]
    exact h.slots t
   ·rw [if_neg c1]
    by_cases c2:t=B.nt
    ·rw [if_pos c2]
     have e:(a.tmps.push v).getD t undef=v:=by
      simp only [Array.getD_eq_getD_getElem?]
      rw [Array.getElem?_push,if_pos (by omega)];rfl
     rw [e]
     exact Cb hr
    ·rw [if_neg c2]
     have e:(a.tmps.push v).getD t undef=a.tmps.getD (t - 1) undef:=by
      simp only [Array.getD_eq_getD_getElem?]
      rw [Array.getElem?_push,if_neg (by omega),Array.getElem?_eq_none (by omega),Array.getElem?_eq_none (by omega)]
     rw [e]
     exact h.slots (t - 1)
  tmps:=by show (a.tmps.push v).size=B.nt+1;rw [Array.size_push,h.tmps]}
theorem Rel.shrink {v:Value} (h:Rel {B with nt:=B.nt+1} st {a with tmps:=a.tmps.push v} w W) (hs:a.tmps.size=B.nt):Rel B (st.ws fun t=>if t<B.nt then st.sl t else st.sl (t+1)) a w W:=
 {h with
  slots:=fun t=>by
   show SR w W st.L (if t<B.nt then st.sl t else st.sl (t+1)) (a.tmps.getD t undef)
   by_cases c1:t<B.nt
   ·rw [if_pos c1]
    have e:(a.tmps.push v).getD t undef=a.tmps.getD t undef:=by
     simp only [Array.getD_eq_getD_getElem?]
     rw [Array.getElem?_push,if_neg (by omega)]
    rw [←e]
    exact h.slots t
   ·rw [if_neg c1]
    have e:(a.tmps.push v).getD (t+1) undef=a.tmps.getD t undef:=by
     simp only [Array.getD_eq_getD_getElem?]
     rw [Array.getElem?_push,if_neg (by omega),Array.getElem?_eq_none (by omega),Array.getElem?_eq_none (by omega)]
    rw [←e]
    exact h.slots (t+1)
  tmps:=hs}
omit [Lim] in
theorem agw {sz:Nat} {r:RV} {x:CV} (e:st.take sz r=some (x,st')):st'.sl=st.sl:=by
 have h:=ve (st:=st) (g:=st.sl) sz r
 have e0:st.ws st.sl=st:=rfl
 rw [e0,e] at h
 simp only [Option.map_some,Option.some.injEq,Prod.mk.injEq,true_and] at h
 rw [h];rfl
omit [Lim] in
theorem adT {xs:List (TypeId×SV)} (e:st.wB P cfg aY none f xs=some st'):st'.sl=st.sl:=by
 have h:=KQ (P:=P) (cfg:=cfg) (c:=aY) (st:=st) (g:=st.sl) (dst:=none) (f:=f) (xs:=xs)
 have e0:st.ws st.sl=st:=rfl
 rw [e0,e] at h
 simp only [Option.map_some,Option.some.injEq] at h
 rw [h];rfl
theorem YH (hF:Ql P cfg aY) (hB:BOK cfg.gb B) (h:Rel B st a w W) {d:Nat} (hd:d<B.nt) {o s c i j n:Nat} {t:Nat} (ht:t<B.nt) (hsl:st.sl t= .v false [.inr o s c i j n]) (e:st.wU P cfg aY d f o s c i j n=some st'):
 Calls P f #[a.tmps.getD t undef] w fun x w'=>∃v,x= .returned v∧∃W',Rel B st' (a.put (some d) v) w' W':=by
 have hinr:RR w W st.L (.inr o s c i j n) (a.tmps.getD t undef):=by
  have:=h.slots t
  rw [hsl] at this
  exact eX this
 generalize hv:a.tmps.getD t undef=v at hinr
 unfold St.wU at e
 obtain ⟨⟨⟨m,tg,y⟩,st1⟩,e1,e⟩:=Option.bind_eq_some_iff.1 e
 cases m with
 | sh=>
  cases y with
  | row z es=>
   simp only at e
   obtain ⟨st2,e2,e⟩:=Option.bind_eq_some_iff.1 e
   obtain ⟨⟨⟨m2,t2,y2⟩,st3⟩,e3,e⟩:=Option.bind_eq_some_iff.1 e
   cases m2 with
   | sh=>
    cases y2 with
    | row z2 es2=>
     simp only at e
     obtain ⟨⟨ob,m4,s4,t4,y4⟩,e4,e⟩:=Option.bind_eq_some_iff.1 e
     cases m4 with
     | dd n2 i2 j2=>
      cases y4 with
      | row sz es0=>
       simp only at e
       split at e
       ·rename_i hcond
        simp only [Bool.and_eq_true,Bool.not_eq_true'] at hcond
        obtain ⟨⟨⟨c1,c2⟩,c3⟩,c4⟩:=hcond
        have c1:=beq_eq c1
        have c2:=beq_eq c2
        have c3:=beq_eq c3
        subst c1 c2 c3
        obtain ⟨ee,e5,e⟩:=Option.bind_eq_some_iff.1 e
        obtain ⟨ee',e6,e7⟩:=Option.map_eq_some_iff.1 e
        obtain ⟨W1,k1,k2,k3,k4,k5,k6⟩:=zM h hinr e1 0
        obtain ⟨W2,l1,l2,l3,l4,l5,l6,_⟩:=Ej k1 (d:=d) (mem:=false) (ag:=false) (k:=0) (xs:=[⟨.sh,tg,.row z es⟩]) (us:=[v]) (kL.cons k6 kL.nil) (b0:=0) (fun hm=>Bool.noConfusion hm)
        have hown:RR w W2 (st1.newObj d false false [⟨.sh,tg,.row z es⟩]).1.L (.own d (st1.newObj d false false [⟨.sh,tg,.row z es⟩]).2.2 0) v:=⟨_,Ad _ _ _ _ _,Nat.le_refl _,fun y hy _=>by rw [l4];rfl⟩
        have g1:=l1.grow hown
        generalize hp:st1.newObj d false false [⟨.sh,tg,.row z es⟩]=p at e2 e3 l1 l2 hown g1
        have anZ:p.1.sl=st.sl:=by rw [←hp];exact k2
        generalize hg:(fun t=>if t<B.nt then p.1.sl t else if t=B.nt then SV.v false [.own d p.2.2 0] else p.1.sl (t - 1))=g at g1
        have e2':(p.1.ws g).wB P cfg aY none f [(0,.v false [.own d p.2.2 0])]=some (st2.ws g):=by
         rw [KQ,e2];rfl
        have hargs:SRs w W2 (p.1.ws g).L [(0,SV.v false [.own d p.2.2 0])] [v]:= .cons (Cb hown) .nil
        have hB':BOK cfg.gb {B with nt:=B.nt+1}:=hB
        refine Calls.mono (Xp hF hB' g1 (dst:=none) (fun d e=>by cases e) hargs e2') fun x w' hx=>?_
        obtain ⟨u,rfl,W3,q1⟩:=hx
        refine ⟨u,rfl,?_⟩
        have q1:Rel {B with nt:=B.nt+1} (st2.ws g) {a with tmps:=a.tmps.push v} w' W3:=q1
        have hs:=h.tmps
        have r1:RR w' W3 st2.L (.own d p.2.2 0) v:=by
         have:=q1.slots B.nt
         have e8:(st2.ws g).sl B.nt= .v false [.own d p.2.2 0]:=by
          show g B.nt=_
          rw [←hg]
          simp
         have e9:(a.tmps.push v).getD B.nt undef=v:=by
          simp only [Array.getD_eq_getD_getElem?]
          rw [Array.getElem?_push,if_pos (by omega)];rfl
         rw [e8] at this
         have this:=eX this
         have e9:({a with tmps:=a.tmps.push v}:Act).tmps.getD B.nt undef=v:=e9
         rw [e9] at this
         exact this
        have e3':(st2.ws g).take 0 (.own d p.2.2 0)=some (⟨.sh,t2,.row z2 es2⟩,st3.ws g):=by
         rw [ve,e3];rfl
        obtain ⟨W4,m1,m2,m3,m4,m5,m6⟩:=zM q1 r1 e3' 0
        have r2:RR w' W4 st3.L (.inr o s c i2 j2 n) v:=by
         have:=m1.slots t
         have e8:(st3.ws g).sl t= .v false [.inr o s c i2 j2 n]:=by
          show g t=_
          rw [←hg]
          simp only [if_pos ht]
          rw [anZ,hsl]
         have e9:({a with tmps:=a.tmps.push v}:Act).tmps.getD t undef=v:=by
          rw [←hv]
          show (a.tmps.push _).getD t undef=_
          simp only [Array.getD_eq_getD_getElem?]
          rw [Array.getElem?_push,if_neg (by omega)]
         rw [e8] at this
         have this:=eX this
         rw [e9] at this
         exact this
        obtain ⟨hL4,hx4,hs4⟩:=eF e4
        simp only at hL4 hx4 hs4
        subst hs4
        obtain ⟨ob9,hL9,_,an0⟩:=r2
        rw [hL4] at hL9;cases hL9
        have hus:=(an0 _ hx4 rfl).2 ⟨rfl,rfl,rfl⟩ _ _ rfl
        obtain ⟨vv,hv4,alu,art⟩:=m1.cellAt (st:=st3.ws g) (show (st3.ws g).cell o s4 c=_ from e4)
        have aru:=alu
        obtain ⟨bs,adg,_,arv⟩:=alu
        rcases adg with ⟨hn,_⟩ | ⟨b',off',cap',arr,T,fr,rest,ibs,hv3,hbs,hh,hfr,hsz,hdr,⟨hp1,_,_⟩,hlc,hrm⟩
        ·rw [hn] at e5;simp at e5
        ·subst hv3
         obtain ⟨alg,T2,fr2,n1,n2,n3,n4⟩:=WL m1 (show (st3.ws g).cell o s4 c=_ from e4) e5 m6 e6 hv4
         rw [hh] at n1
         cases n1
         have hpos:arr.toList[off'+i2*sz+j2]?=some v:=by
          have hq:(arr.toList.drop off')[i2*sz+j2]?=some v:=by
           rw [hdr,List.getElem?_append_left hp1];exact hus
          rw [List.getElem?_drop] at hq
          rw [←hq];congr 1;omega
         have an1:arr.toList=splice arr.toList (off'+i2*sz+j2) [v]:=by
          have hlt:off'+i2*sz+j2<arr.toList.length:=by
           rcases Nat.lt_or_ge (off'+i2*sz+j2) arr.toList.length with h' | h'
           ·exact h'
           ·rw [List.getElem?_eq_none h'] at hpos;cases hpos
          rw [EM hlt]
          apply List.ext_getElem?
          intro q
          by_cases eq:off'+i2*sz+j2=q
          ·subst eq
           rw [List.getElem?_set_self hlt,hpos]
          ·rw [List.getElem?_set_ne eq]
         obtain ⟨W5,o1⟩:=n4 w' arr hh an1 (fun _ _=>rfl) rfl ⟨rfl,rfl⟩
         have o2:=o1.shrink hs
         refine ⟨W5,?_⟩
         have hfin:((((st3.ws g).setObj o {ob with cs:=ob.cs.set c ⟨.dp (n+1+1),s4,Nat.max t2 t4,.row sz (es0.set i2 ee')⟩}).ws fun t=>if t<B.nt then ((st3.ws g).setObj o {ob with cs:=ob.cs.set c ⟨.dp (n+1+1),s4,Nat.max t2 t4,.row sz (es0.set i2 ee')⟩}).sl t else ((st3.ws g).setObj o {ob with cs:=ob.cs.set c ⟨.dp (n+1+1),s4,Nat.max t2 t4,.row sz (es0.set i2 ee')⟩}).sl (t+1)):St)=st3.setObj o {ob with cs:=ob.cs.set c ⟨.dp (n+2),s4,Nat.max t2 t4,.row sz (es0.set i2 ee')⟩}:=by
          have an2:st3.sl=p.1.sl:=(agw e3).trans (adT e2)
          have hgs:(fun t=>if t<B.nt then g t else g (t+1))=st3.sl:=by
           rw [an2,←hg]
           funext t
           by_cases c1:t<B.nt
           ·simp only [if_pos c1]
           ·simp only [if_neg c1,if_neg (show ¬t+1<B.nt by omega),if_neg (show ¬t+1=B.nt by omega),Nat.add_sub_cancel]
          show ({sl:=(fun t=>if t<B.nt then g t else g (t+1)),L:=_}:St)=_
          rw [hgs]
          rfl
         rw [hfin] at o2
         rw [←e7]
         exact o2.put hd (.inr ⟨rfl,_,rfl,trivial⟩)
       ·cases e
      | _=>cases e
     | _=>cases e
    | _=>cases e
   | _=>cases e
  | _=>cases e
 | _=>cases e
omit [Lim] in
theorem YI {d o s c i j n:Nat} (e:st.wU P cfg aY d f o s c i j n=some st'):st'.sl=upd st.sl d (st'.sl d):=by
 have h:=JG (P:=P) (cfg:=cfg) (c:=aY) (st:=st) (g:=st.sl) (d:=d) (f:=f) (o:=o) (s:=s) (cc:=c) (i:=i) (j:=j) (n:=n)
 have e0:st.ws st.sl=st:=rfl
 rw [e0,e] at h
 simp only [Option.map_some,Option.some.injEq] at h
 have h2:=congrArg St.sl h
 exact h2
theorem Xq (hF:Ql P cfg aY) (hB:BOK cfg.gb B) (h:Rel B st a w W) {d:Nat} (hd:d<B.nt) {o s c i j n:Nat} {v:Value} (hinr:RR w W st.L (.inr o s c i j n) v) (e:st.wU P cfg aY d f o s c i j n=some st'):
 Calls P f #[v] w fun x w'=>∃v,x= .returned v∧∃W',Rel B st' (a.put (some d) v) w' W':=by
 have hs:=h.tmps
 have g1:=h.grow hinr
 generalize hg:(fun t=>if t<B.nt then st.sl t else if t=B.nt then SV.v false [.inr o s c i j n] else st.sl (t - 1))=g at g1
 have e':(st.ws g).wU P cfg aY d f o s c i j n=some (jJ (some d) g st'):=by
  rw [JG,e];rfl
 have hB':BOK cfg.gb {B with nt:=B.nt+1}:=hB
 have hv:({a with tmps:=a.tmps.push v}:Act).tmps.getD B.nt undef=v:=by
  show (a.tmps.push v).getD B.nt undef=v
  simp only [Array.getD_eq_getD_getElem?]
  rw [Array.getElem?_push,if_pos (by omega)];rfl
 have hc:=YH hF hB' g1 (d:=d) (show d<B.nt+1 by omega) (t:=B.nt) (show B.nt<B.nt+1 by omega) (by show g B.nt=_;rw [←hg];simp) e'
 rw [hv] at hc
 refine Calls.mono hc fun x w' hx=>?_
 obtain ⟨u,rfl,W',q1⟩:=hx
 refine ⟨u,rfl,W',?_⟩
 have ha:({a with tmps:=a.tmps.push v}:Act).put (some d) u={(a.put (some d) u) with tmps:=(a.put (some d) u).tmps.push v}:=by
  show ({tmps:=(a.tmps.push v).setIfInBounds d u,defers:=a.defers}:Act)={tmps:=(a.tmps.setIfInBounds d u).push v,defers:=a.defers}
  congr 1
  apply Array.ext'
  rw [Array.toList_setIfInBounds,Array.toList_push,Array.toList_push,Array.toList_setIfInBounds,List.set_append_left _ _ (by rw [Array.length_toList];omega)]
 rw [ha] at q1
 have q2:=q1.shrink (by show (a.tmps.setIfInBounds d u).size=B.nt;rw [Array.size_setIfInBounds];exact hs)
 have hst:((jJ (some d) g st').ws fun t=>if t<B.nt then (jJ (some d) g st').sl t else (jJ (some d) g st').sl (t+1))=st':=by
  have h3:=YI e
  have:(fun t=>if t<B.nt then (upd g d (st'.sl d)) t else (upd g d (st'.sl d)) (t+1))=st'.sl:=by
   rw [h3]
   funext t
   by_cases c1:t<B.nt
   ·rw [if_pos c1]
    by_cases c2:t=d
    ·subst c2;rw [upd_same,upd_same]
    ·rw [upd_ne _ _ c2,upd_ne _ _ c2,←hg]
     simp only [if_pos c1]
   ·rw [if_neg c1,upd_ne _ _ (show t+1≠d by omega),upd_ne _ _ (show t≠d by omega),←hg]
    simp only [if_neg (show ¬t+1<B.nt by omega),if_neg (show ¬t+1=B.nt by omega),Nat.add_sub_cancel]
  show ({sl:=(fun t=>if t<B.nt then (upd g d (st'.sl d)) t else (upd g d (st'.sl d)) (t+1)),L:=st'.L}:St)=st'
  rw [this]
 rw [hst] at q2
 exact q2
theorem agx (hF:Ql P cfg aY) (hB:BOK cfg.gb B) (h:Rel B st a w W) {dst:Option Tmp} (hd:∀d,dst=some d→d<B.nt) {xs:List (TypeId×SV)} {vs:List Value} (hs:SRs w W st.L xs vs) (e:st.call P cfg aY dst f xs=some st'):
 Calls P f vs.toArray w fun e w'=>∃v,e= .returned v∧∃W',Rel B st' (a.put dst v) w' W':=by
 unfold St.call at e
 replace e:=Option.or_eq_some_iff.1 e
 rcases e with e | ⟨-,e⟩
 ·exact Xp hF hB h hd hs e
 ·split at e
  ·cases hs with
   | cons h1 h2=>
    cases h2
    exact Xq hF hB h (hd _ rfl) (eX h1) e
  ·cases e
def Enters (P:Program) (aY:FuncId→List Arg→Option (Res×List Out)):Prop:=
 ∀f args r,aY f args=some r→∃fn,P.funcs[f]?=some fn∧fn.body.isNone=false∧(fn.name=="runtime.NumGoroutine")=false
theorem agy (hF:Ql P cfg aY) (hB:BOK cfg.gb B) (hE:Enters P aY) (h:Rel B st a w W) (hn:nt=B.nt) {c:Call} {g:Operand} (hc:c.callee= .value g) (ho:o.op= .call c) (e:aH P cfg aY nt o st=some st'):Good P B o st' a w:=by
 subst hn
 simp only [aH,ho,hc] at e
 have hg:=h.get g
 have zip:∀{us:List Value} {ys:List (TypeId×SV)},c.argTypes.size=c.args.size→SRs w W st.L ys us→SRs w W st.L (c.argTypes.toList.zip (c.args.toList.map st.get)++ys) (c.args.toList.map a.eval++us):=by
  intro us ys hsz hys
  have:∀(ts:List TypeId) (xs:List Operand),ts.length=xs.length→SRs w W st.L (ts.zip (xs.map st.get)++ys) (xs.map a.eval++us):=by
   intro ts xs
   induction xs generalizing ts with
   | nil=>intro hl;cases ts with
    | nil=>exact hys
    | cons _ _=>cases hl
   | cons x xs ih=>
    intro hl
    cases ts with
    | nil=>cases hl
    | cons t ts=>exact .cons (h.get x) (ih ts (by simpa using hl))
  exact this _ _ (by simpa using hsz)
 have fin:∀{f:FuncId} {caps:Array Value} {ys:List (TypeId×SV)},a.eval g= .func (.func f) #[] caps→SRs w W st.L ys caps.toList→
  (if c.argTypes.size.beq c.args.size&&F5 B.nt o.dst then st.call P cfg aY o.dst f (c.argTypes.toList.zip (c.args.toList.map st.get)++ys) else none)=some st'→Good P B o st' a w:=by
  intro f caps ys hv hys e
  split at e
  ·rename_i hcond
   simp only [Bool.and_eq_true] at hcond
   have hsz:=beq_eq hcond.1
   have hdst:∀d,o.dst=some d→d<B.nt:=fun d hd=>by
    have:=hcond.2
    rw [hd] at this
    exact zi this
   obtain ⟨r,hr⟩:∃r,∃args,aY f args=some r:=by
    have e0:∀{st st':St} {dst:Option Tmp} {xs:List (TypeId×SV)},st.wB P cfg aY dst f xs=some st'→∃r,∃args,aY f args=some r:=by
     intro st st' dst xs e
     unfold St.wB at e
     obtain ⟨pre,_,e⟩:=Option.bind_eq_some_iff.1 e
     obtain ⟨p,_,e⟩:=Option.bind_eq_some_iff.1 e
     split at e
     ·cases e
     ·obtain ⟨r,h1,_⟩:=Option.bind_eq_some_iff.1 e
      exact ⟨r,_,h1⟩
    unfold St.call at e
    replace e:=Option.or_eq_some_iff.1 e
    rcases e with e | ⟨-,e⟩
    ·exact e0 e
    ·split at e
     ·unfold St.wU at e
      obtain ⟨⟨⟨m,tg,y⟩,st1⟩,_,e⟩:=Option.bind_eq_some_iff.1 e
      cases m with
      | sh=>
       cases y with
       | row z es=>
        simp only at e
        obtain ⟨st2,e2,_⟩:=Option.bind_eq_some_iff.1 e
        exact e0 e2
       | _=>cases e
      | _=>cases e
     ·cases e
   obtain ⟨args,hr⟩:=hr
   obtain ⟨fn,f1,f2,f3⟩:=hE f args r hr
   have hcall:=agx hF hB h hdst (zip hsz hys) e
   have hargs:(c.args.toList.map a.eval++caps.toList).toArray=c.args.map a.eval++caps:=by
    apply Array.ext'
    simp
   rw [hargs] at hcall
   intro K Q hK
   unfold Oper.wp
   have hrun:(execOp a.eval o).run P w= .ok (.enter f (c.args.map a.eval++caps)) w:=by
    have f2':fn.body.isNone=false:=f2
    have f3':¬fn.name="runtime.NumGoroutine":=by simpa using f3
    have an3:¬fn.body=none:=by
     intro e0
     rw [e0] at f2
     cases f2
    simp [execOp,ho,resolve,hc,hv,Deferred.ofValue,invoke,callFunc,f1,f3',an3]
   rw [hrun,Oper.upon_enter]
   refine Calls.mono hcall fun x w' hx=>?_
   obtain ⟨v,rfl,W',hr'⟩:=hx
   exact hK _ _ _ hr'
  ·cases e
 split at e
 ·rename_i f caps hv
  rw [hv] at hg
  obtain ⟨us,h1,h2⟩:=hg
  refine fin h1 ?_ e
  have:∀{rs:List RV} {us:List Value},RRs w W st.L rs us→SRs w W st.L (rs.map fun r=>(0,SV.v false [r])) us:=by
   intro rs us hr
   induction hr with
   | nil=>exact .nil
   | cons h1 _ ih=>exact .cons (Cb h1) ih
  exact this h2
 ·rename_i t f cs hv
  rw [hv] at hg
  have hr:RR w W st.L (.im t (.clo f cs)) (a.eval g):=eX hg
  have hcr:CRi w (W.F (tg t)) [.clo f cs] [a.eval g]:=hr
  generalize hgv:a.eval g=gv at hcr
  cases hcr with
  | @clo _ _ us _ _ hcs _=>
   refine fin (caps:=us.toArray) hgv ?_ e
   have:∀{as:List AV} {us:List Value},CRi w (W.F (tg t)) as us→SRs w W st.L (as.map fun y=>(0,SV.im t y)) us:=by
    intro as
    induction as with
    | nil=>intro us hc;cases hc;exact .nil
    | cons y as ih=>
     intro us hc
     obtain ⟨v,us',rfl,h1,h2⟩:=CRi.cons_inv hc
     exact .cons (Cb h1.ait) (ih h2)
   simpa using this hcs
 ·cases e
end
end
end Go.Sim
namespace Go.Sim
variable [Lim]
open Classical
set_option linter.unusedSimpArgs false
set_option linter.unusedVariables false
noncomputable section
section
variable {P:Program} {cfg:Cfg} {aY:FuncId→List Arg→Option (Res×List Out)} {B:Base} {st st':St} {a:Act} {w:World} {W:Wit} {o:Oper} {nt f:Nat} {ops:Array Oper}
theorem alv (hF:Ql P cfg aY) (hE:Enters P aY) (B:Base) (hB:BOK cfg.gb B):P8 P cfg aY B:=by
 intro o st st' a w W h e
 cases ho:o.op with
 | move x=>exact agb h rfl ho e
 | assign x=>exact abI h rfl ho e
 | pick c x y=>exact agc h rfl ho e
 | alloc t=>exact adm h rfl ho e
 | box t x=>exact ajf h rfl ho e
 | build t ps=>exact adq h rfl ho e
 | buildSlice t n ps=>exact SK h rfl ho e
 | load t x=>exact agd h rfl ho e
 | store t p x=>exact adn h rfl ho e
 | nilCheck x=>exact WO h rfl ho e
 | binOp op t x y t2=>exact adl h rfl ho e
 | unOp op t x=>exact agf h rfl ho e
 | convert s t x=>exact Yq h rfl ho e
 | makeFunc fn first caps=>
  cases fn with
  | func f=>exact WS h rfl ho e
  | _=>simp [aH,ho] at e
 | makeSlice t n c=>exact UU h rfl ho e
 | slice t x lo hi mx=>
  cases mx with
  | none=>exact ok_slice h rfl ho e
  | some _=>simp [aH,ho] at e
 | fieldAddr s x f=>exact UN h rfl ho e
 | field t x f=>exact adp h rfl ho e
 | indexAddr t x i=>exact UO h rfl ho e
 | index t x i=>exact adk h rfl ho e
 | extract x i=>exact Yr h rfl ho e
 | call c=>
  cases hc:c.callee with
  | builtin b=>
   cases b with
   | len=>exact ajc h rfl hc ho e
   | min=>exact ajd h rfl hc ho e
   | max=>exact aje h rfl hc ho e
   | append=>exact abM h rfl hc ho e
   | _=>simp [aH,ho,hc] at e
  | value g=>exact agy hF hB hE h rfl hc ho e
  | _=>simp [aH,ho,hc] at e
 | _=>simp [aH,ho] at e
def Plain (P:Program) (f:FuncId):Prop:=∃fn,P.funcs[f]?=some fn∧fn.body.isNone=false∧(fn.name=="runtime.NumGoroutine")=false
structure ZZ (P:Program) (cfg:Cfg):Prop where
 mix:P.follows .mixedOrders=true
 code:∀f fn c,cfg.on f=true→P.funcs[f]?=some fn→fn.body=some c→o7 (cfg.fc f) c=true
 name:∀f fn,cfg.on f=true→P.funcs[f]?=some fn→(fn.name=="runtime.NumGoroutine")=false
 ext:∀f g,cfg.ext f=some g→Plain P f∧∀args res outs,g args=some (res,outs)→∀(w:World) (vs:List Value) (W:Wit),vs.length=args.length→BOK cfg.gb (jK w W 0)→(∀n,vs.length≤n→Rel (jK w W n) (entry args) (tZ vs n) w W)→
  Calls P f vs.toArray w fun e w'=>∃v n,e= .returned v∧GZ cfg f (jK w W n) args res outs w' v
theorem adU (hc:ZZ P cfg):∀n,Ql P cfg (evF P cfg n)∧Enters P (evF P cfg n)
 | 0=>⟨(fun f args res outs e=>by cases e),(fun f args r e=>by cases e)⟩
 | n+1=>by
  obtain ⟨ih1,ih2⟩:=adU hc n
  refine ⟨fun f args res outs e=>?_,fun f args r e=>?_⟩
  ·intro w vs W hl hB hr
   simp only [evF] at e
   cases hx:cfg.ext f with
   | some g=>
    rw [hx] at e
    exact (hc.ext f g hx).2 args _ _ e w vs W hl hB hr
   | none=>
    rw [hx] at e
    simp only at e
    split at e
    ·rename_i hon
     obtain ⟨fn,hf,e⟩:=Option.bind_eq_some_iff.1 e
     exact abT hc.mix (alv ih1 ih2) hf (fun c hb=>hc.code f fn c hon hf hb) e w vs W hl hB hr
    ·cases e
  ·simp only [evF] at e
   cases hx:cfg.ext f with
   | some g=>exact (hc.ext f g hx).1
   | none=>
    rw [hx] at e
    simp only at e
    split at e
    ·rename_i hon
     obtain ⟨fn,hf,e⟩:=Option.bind_eq_some_iff.1 e
     refine ⟨fn,hf,?_,hc.name f fn hon hf⟩
     unfold EL at e
     split at e
     ·cases e
     ·obtain ⟨c,hb,_⟩:=Option.bind_eq_some_iff.1 e
      rw [hb];rfl
    ·cases e
end
end
end Go.Sim
