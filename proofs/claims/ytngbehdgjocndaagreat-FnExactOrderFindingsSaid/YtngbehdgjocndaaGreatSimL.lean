/- The operations that make or write memory. Conditions: none. -/
import Derived.Test.YtngbehdgjocndaaGreatSimK
namespace Go.Sim
variable [Lim]
open Classical
set_option linter.unusedSimpArgs false
set_option linter.unusedVariables false
noncomputable section
section
variable {P:Program} {cfg:Cfg} {aY:FuncId→List Arg→Option (Res×List Out)} {B:Base} {st st':St} {a:Act} {w:World} {W:Wit} {o:Oper} {nt:Nat}
theorem IL {t:TypeId} {cs:List RV} (h:zeroCells P t=some cs):∃inf z,P.info? t=some inf∧inf.zero=some z∧RRs w W st.L cs z.cells.toList:=by
 unfold zeroCells at h
 obtain ⟨z,hz,h⟩:=Option.bind_eq_some_iff.1 h
 obtain ⟨inf,hi,hz⟩:=Option.bind_eq_some_iff.1 hz
 refine ⟨inf,z,hi,hz,?_⟩
 have:=RRs.map (w:=w) (W:=W) (L:=st.L) (g:=id) h fun x r hx=>?_
 ·simpa using this
 ·split at hx
  ·rename_i hp
   cases hx
   exact .sc hp .nil
  ·split at hx
   ·rename_i hn
    cases hx
    show x=_
    unfold BX at hn
    split at hn
    ·rfl
    ·cases hn
   ·cases hx
omit [Lim] in
theorem atD {dst:Option Tmp} {k:Nat→Option St} (e:(dst.bind fun d=>if Nat.blt d nt then k d else none)=some st'):∃d,dst=some d∧d<nt∧k d=some st':=by
 obtain ⟨d,hd,e⟩:=Option.bind_eq_some_iff.1 e
 split at e
 ·rename_i hlt
  exact ⟨d,hd,zi hlt,e⟩
 ·cases e
omit [Lim] in
theorem oneCell_cells {v:Value} (h:v.oneCell'=true):v.cells=#[v]:=by
 cases v<;>first | rfl | (simp [Value.oneCell'] at h)
theorem adm (h:Rel B st a w W) (hn:nt=B.nt) {t:TypeId} (ho:o.op= .alloc t) (e:aH P cfg aY nt o st=some st'):Good P B o st' a w:=by
 simp only [aH,ho] at e
 obtain ⟨d,hd,hlt,e⟩:=atD e
 obtain ⟨cs,hcs,e⟩:=Option.bind_eq_some_iff.1 e
 obtain ⟨ks,hks,e⟩:=Option.bind_eq_some_iff.1 e
 obtain ⟨⟨xs,st1⟩,hxs,e⟩:=Option.map_eq_some_iff.1 e
 obtain ⟨inf,z,hi,hz,hrs⟩:=IL (w:=w) (W:=W) (st:=st) hcs
 obtain ⟨W1,h1,h2,h3,h4,h5,h6⟩:=zn cs z.cells.toList 0 h hrs hxs
 obtain ⟨W2,k1⟩:=Oq h1 (d:=d) (hn ▸ hlt) (ag:=fJ P t) h6 t
 simp only at e
 subst e
 refine Good.value (u:= .pointer (some ⟨w.heap.size,0,none⟩)) (w':={w with heap:=w.heap.push (.cells z.cells t)}) (W':=W2) ?_ ?_
 ·simp [execOp,ho,Instr.alloc,zeroValue,Eg hi,hz,newVar,newRow]
 ·rw [hd]
  simpa using k1
theorem KO {L:Nat→Option Obj} {ag:Bool} {cs:List RV} {v:Value} (hs:SR w W L (.v ag cs) v):∃vs,RRs w W L cs vs∧((∀u∈vs,u.oneCell'=true)→v.cells.toList=vs)∧(ag=true→v= .agg vs.toArray)∧(ag=false→vs=[v]):=by
 rcases hs with ⟨h1,vs,rfl,h2⟩ | ⟨h1,r,h2,h3⟩
 ·simp only at h1;subst h1
  exact ⟨vs.toList,h2,fun _=>rfl,fun _=>rfl,fun e=>Bool.noConfusion e⟩
 ·simp only at h1 h2;subst h1 h2
  refine ⟨[v],.cons h3 .nil,fun hv=>?_,fun e=>Bool.noConfusion e,fun _=>rfl⟩
  rw [oneCell_cells (hv v (by simp))]
theorem kL.deep {k d:Nat}:∀{xs:List CV} {us:List Value} {k':Nat},kL w W k' xs us→kL w W k' (UH cfg nt d k xs) us
 | [],us,k',h=>h
 | x::xs,[],k',h=>by cases h.1
 | x::xs,u::us,k',h=>by
  have h0:mg w W k' x u:=by simpa using h.2 0 x u rfl rfl
  have h1:kL w W (k'+1) xs us:=⟨by simpa using h.1,fun i x v hx hv=>by
   have:=h.2 (i+1) x v (by simpa using hx) (by simpa using hv)
   rwa [show k'+(i+1)=k'+1+i by omega] at this⟩
  refine kL.cons ?_ (kL.deep h1)
  cases cfg.deep nt ((k+2) *1000000+d) with
  | false=>exact h0
  | true=>
   simp only [cond_true]
   split
   ·obtain ⟨sz,es,ob,he,ho,hb⟩:=h0
    simp only [AV.row.injEq] at he
    obtain ⟨rfl,rfl⟩:=he
    rcases ho with ⟨_,hv,rfl⟩ | ⟨b,off,cap,arr,T,fr,us,rest,hv,rfl,hh,hf,hs,hd,hc,hl,hr⟩
    ·exact ⟨_,[],[],[],rfl,.inl ⟨rfl,hv,rfl,rfl⟩,by simp,by simp⟩
    ·cases hc
     exact ⟨_,[],[],[b],rfl,.inr ⟨b,off,cap,arr,T,fr,rest,[],hv,rfl,hh,hf,hs,hd,.nil,hl,hr⟩,by simp,fun x hx=>by rw [List.mem_singleton.1 hx];exact hb b rfl⟩
   ·exact h0
theorem kL.boxed {d k':Nat} {xs:List CV} {us:List Value} (h:kL w W k' xs us):kL w W k' (UI cfg nt d xs) us:=by
 unfold UI
 cases cfg.deep nt (1000000+d) with
 | false=>exact h
 | true=>exact h.deep
theorem ajf (h:Rel B st a w W) (hn:nt=B.nt) {t:TypeId} {x:Operand} (ho:o.op= .box t x) (e:aH P cfg aY nt o st=some st'):Good P B o st' a w:=by
 simp only [aH,ho] at e
 obtain ⟨d,hd,hlt,e⟩:=atD e
 split at e
 ·rename_i ag cs hg
  obtain ⟨ks,hks,e⟩:=Option.bind_eq_some_iff.1 e
  obtain ⟨⟨xs,st1⟩,hxs,e⟩:=Option.map_eq_some_iff.1 e
  have hx:=h.get x
  rw [hg] at hx
  obtain ⟨vs,hrs,hcells,_⟩:=KO hx
  obtain ⟨W1,h1,h2,h3,h4,h5,h6⟩:=zn cs vs 0 h hrs hxs
  obtain ⟨W2,k1⟩:=Oq h1 (d:=d) (hn ▸ hlt) (ag:=fJ P t) (h6.boxed (cfg:=cfg) (nt:=nt) (d:=d)) t
  have hc:=hcells h6.uZ
  simp only at e
  subst e
  refine Good.value (u:= .pointer (some ⟨w.heap.size,0,none⟩)) (w':={w with heap:=w.heap.push (.cells (a.eval x).cells t)}) (W':=W2) ?_ ?_
  ·simp [execOp,ho,Instr.box,newVar,newRow]
  ·rw [hd]
   have:vs.toArray=(a.eval x).cells:=by rw [←hc]
   rw [this] at k1
   exact k1
 ·cases e
theorem MJ (h:Rel B st a w W) {d sz:Nat} (hd:d<B.nt) {r:RV} {v:Value} (hr:RR w W st.L r v)
 (e:((st.take sz r).map fun (x,st)=>match x.m with
   | .sh=>let p:=st.newObj d false false [x];p.1.cZ d (.v false [.own d p.2.2 0])
   | .dp _=>let p:=st.newObj d false false [x];p.1.cZ d (.v false [.own d p.2.2 0])
   | .ws=>st.cZ d (.v false [.ws x.a])
   | .fr=>st.cZ d (.v false [.fr x.a])
   | _=>st.cZ d (.im x.t x.a))=some st'):∃W',Rel B st' (a.put (some d) v) w W':=by
 obtain ⟨⟨x,st1⟩,hx,e⟩:=Option.map_eq_some_iff.1 e
 obtain ⟨W1,k1,k2,k3,k4,k5,k6⟩:=zM h hr hx 0
 obtain ⟨m,t,y⟩:=x
 cases m with
 | gone=>exact k6.elim
 | imm=>
  simp only at e
  subst e
  exact ⟨W1,k1.put hd (Cb k6)⟩
 | sh=>
  simp only at e
  subst e
  exact tY k1 hd k6 (.inl rfl)
 | dp n=>
  simp only at e
  subst e
  exact tY k1 hd k6 (.inr ⟨n,rfl⟩)
 | dd n i j=>exact k6.elim
 | ws=>
  simp only at e
  subst e
  exact ⟨W1,k1.put hd (Cb k6)⟩
 | fr=>
  simp only at e
  subst e
  exact ⟨W1,k1.put hd (Cb k6)⟩
theorem abI (h:Rel B st a w W) (hn:nt=B.nt) {x:Operand} (ho:o.op= .assign x) (e:aH P cfg aY nt o st=some st'):Good P B o st' a w:=by
 simp only [aH,ho] at e
 obtain ⟨d,hd,hlt,e⟩:=atD e
 have hx:=h.get x
 have hdn:d<B.nt:=hn ▸ hlt
 have main:∃W',Rel B st' (a.put (some d) (a.eval x)) w W':=by
  unfold St.assign at e
  simp only at e
  split at e
  ·rename_i o1 s1 c1 hg
   rw [hg] at hx
   split at e
   ·cases e
    exact ⟨W,h.put hdn (by rw [hg];exact hx)⟩
   ·exact MJ h hdn (eX hx) e
  ·rename_i hg
   rw [hg] at hx
   exact MJ h hdn (eX hx) e
  ·rename_i hg
   rw [hg] at hx
   exact MJ h hdn (eX hx) e
  ·cases e
   exact ⟨W,h.put hdn hx⟩
 obtain ⟨W',hW'⟩:=main
 refine Good.value (u:=a.eval x) (w':=w) (W':=W') (by simp [execOp,ho]) ?_
 rw [hd];exact hW'
theorem Rel.scalar (h:Rel B st a w W) {b0:Nat} (hown:W.own b0=some (.tr true)) {w':World} (hb0:Dx w' b0) (hs0:MC (w.heap[b0]?) (w'.heap[b0]?)) (hio:w'.os=w.os∧w'.output=w.output) (hs:w'.heap.size=w.heap.size) (hne:∀b,b≠b0→w'.heap[b]?=w.heap[b]?):Rel B st a w' W:=by
 have hF:∀t b,W.F (tg t) b→W.F (tg t) b∧w'.heap[b]?=w.heap[b]?:=fun t b hb=>⟨hb,hne b fun e=>by
  have:=h.qF b (h.f2 hb)
  rw [e,hown] at this;cases this⟩
 have hcl:∀b y,W.own b=some y→y≠ .tr true→W.own b=some y∧w'.heap[b]?=w.heap[b]?:=fun b y hb hy=>⟨hb,hne b fun e=>by
  rw [e,hown] at hb
  cases hb
  exact hy rfl⟩
 have hD:TrK w w' W W:=⟨fun b hb=>hcl b _ hb (fun e=>by cases e),fun b hb=>⟨hb,by
  by_cases e:b=b0
  ·subst e;exact hs0
  ·exact .inl (hne b e)⟩⟩
 have:=h.step (hio:=hio) (L':=st.L) (w':=w') (W':=W) (fun _ _ hb=>hb) h.f01 h.f12 (fun _ _ hb=> .inl hb) h.qF (fun b hb=>by rw [hs];exact h.flt b hb) (fun b y hb=>by rw [hs];exact h.olt b y hb)
  (fun b hb=>(hF 2 b hb).2) (Ext.refl _ _) (Par.same (fun _=>rfl) fun _=>rfl) ?_ ?_ (by omega) hD (fun b hb=> .inl hb) (fun b y hb=>by
    by_cases e:b=b0
    ·subst e;exact .inr hb0
    ·exact .inl ⟨⟨y,hb⟩,.inl (hne b e)⟩)
 ·exact this
 ·intro o' ob hL
  refine (h.iJ o' ob hL).keep hF rfl rfl (fun _=>rfl) (fun _=>rfl) (fun c b hb=>hcl b _ hb fun e=>by cases e) (fun hm=>?_) hD
  obtain ⟨arr,T,fr,h1,h2,h3,h4,h5⟩:=(h.iJ o' ob hL).mem hm
  refine ⟨?_,h4⟩
  cases hf:ob.fz
  ·exact (hcl _ _ (h4 hf) fun e=>by cases e).2
  ·exact (hF 0 _ (by simpa [tg] using h5 hf)).2
 ·intro b hb hl
  refine hne b fun e=>?_
  rcases (h.olt b0 _ hown).2 with h1 | h1
  ·omega
  ·rw [e] at hl;exact hl h1
theorem adn (h:Rel B st a w W) (hn:nt=B.nt) {t:TypeId} {p x:Operand} (ho:o.op= .store t p x) (e:aH P cfg aY nt o st=some st'):Good P B o st' a w:=by
 simp only [aH,ho] at e
 split at e
 ·cases e
 ·rename_i hdst
  have hdst:o.dst=none:=by
   cases hd:o.dst with
   | none=>rfl
   | some d=>rw [hd] at hdst;exact absurd rfl hdst
  obtain ⟨r,hr,e⟩:=Option.bind_eq_some_iff.1 e
  have hp:=GL hr (h.get p)
  split at e
  ·rename_i ag cs hg
   split at e
   ·rename_i hlen
    have hlen:=beq_eq hlen
    obtain ⟨ks,hks,e⟩:=Option.bind_eq_some_iff.1 e
    obtain ⟨dd,hdd⟩:=GI hks
    obtain ⟨inf,hi⟩:=JB hdd
    have hx:=h.get x
    rw [hg] at hx
    obtain ⟨vs,hrs,hcells,_⟩:=KO hx
    have hvl:=hrs.length
    have hsz:vs.length=inf.size:=by rw [←hvl,hlen,BC hi]
    have fin:∀{b off:Nat} {w':World},a.eval p= .pointer (some ⟨b,off,none⟩)→(∀u∈vs,u.oneCell'=true)→(storeCells ⟨b,off,none⟩ vs 0).run P w= .ok () w'→(execOp a.eval o).run P w= .ok .skip w':=by
     intro b off w' hv hone hrun
     have hc:=hcells hone
     have hcs:(a.eval x).cells.size=inf.size:=by rw [←Array.length_toList,hc,hsz]
     simp [execOp,ho,Instr.storeAt,hv,Instr.sureAddr,storeVar,nH hi,hcs,hc,hrun]
    unfold St.store at e
    split at e
    ·rename_i o1 s1 ado _
     obtain ⟨⟨xs,st1⟩,hxs,e⟩:=Option.bind_eq_some_iff.1 e
     obtain ⟨ob,hob,e⟩:=Option.bind_eq_some_iff.1 e
     split at e
     ·rename_i hcond
      simp only [Bool.and_eq_true,Bool.not_eq_true'] at hcond
      obtain ⟨⟨hm,hfz⟩,hle⟩:=hcond
      have hle:=qH hle
      obtain ⟨W1,k1,k2,k3,k4,k5,k6⟩:=zn cs vs 0 h hrs hxs
      have hp1:RR w W1 st1.L (.mp o1 s1 ado) (a.eval p):=hp.ext (fun t b hb=>⟨k4 _ _ hb,rfl⟩) k3 (TrK.loose k5)
      obtain ⟨hL,anL⟩:=xW hob
      obtain ⟨ob2,hL2,_,hval⟩:=hp1
      rw [hL] at hL2;cases hL2
      obtain ⟨_,hv⟩:=hval anL
      have iq:=k1.iJ o1 ob hL
      obtain ⟨arr,T,fr,m1,m2,m3,m4,_⟩:=iq.mem hm
      have hal:arr.size=ob.cs.length:=by rw [←iq.len,←m2,Array.length_toList]
      have hxl:=k6.1
      obtain ⟨w',jR,q1,q2,q3,q4,q5,q6⟩:=mF (P:=P) vs 0 (b:=W1.blk o1) (off:=ado) m1 m3 k6.uZ (by omega)
      have hsz':jR.size=arr.size:=by
       have:=congrArg List.length q3
       rw [gV (by simp;omega)] at this
       simpa using this
      obtain ⟨W',hW'⟩:=Yl k1 hL hm hfz k6 hle q2 (by rw [hsz'];exact m3) (by rw [q3,m2];rfl) q4 q5 q6
      cases e
      refine Good.skip (fin hv k6.uZ q1) (W':=W') ?_
      rw [hdst];exact hW'
     ·cases e
    ·rename_i o1 s1 c1 i1 ado _
     split at e
     ·obtain ⟨⟨xs,st1⟩,hxs,e⟩:=Option.bind_eq_some_iff.1 e
      obtain ⟨⟨ob,m,s',t',z⟩,hc,e⟩:=Option.bind_eq_some_iff.1 e
      cases m with
      | dd n i' j=>
       cases z with
       | row sz es=>
        simp only at e
        split at e
        ·rename_i t2 z2 as2
         split at e
         ·rename_i hij
          simp only [Bool.and_eq_true] at hij
          have hi':=beq_eq hij.1
          have hj':=beq_eq hij.2
          subst hi' hj'
          obtain ⟨ee,hee,e⟩:=Option.bind_eq_some_iff.1 e
          obtain ⟨e',he',hst⟩:=Option.map_eq_some_iff.1 e
          obtain ⟨W1,k1,k2,k3,k4,k5,k6⟩:=zn cs vs 0 h hrs hxs
          obtain ⟨u,hu⟩:∃u,vs=[u]:=List.length_eq_one_iff.1 (by rw [←k6.1];rfl)
          subst hu
          have zl:=k6.2 0 _ u rfl rfl
          have hp1:RR w W1 st1.L (.mpe o1 s1 c1 i' j) (a.eval p):=hp.ext (fun t b hb=>⟨k4 _ _ hb,rfl⟩) k3 (TrK.loose k5)
          obtain ⟨hL,hxc,hs⟩:=eF hc
          simp only at hL hxc hs;subst hs
          obtain ⟨ob2,hL2,_,hval⟩:=hp1
          rw [hL] at hL2;cases hL2
          obtain ⟨_,b,ik,cap,hvv,hv⟩:=hval _ hxc rfl (by intro e;cases e) _ _ rfl
          obtain ⟨arr,T,fr,m1,m2,m3,m4⟩:=WL k1 hc hee zl he' hvv
          obtain ⟨w',jR,q1,q2,q3,q4,q5,q6⟩:=mF (P:=P) [u] 0 (b:=b) (off:=ik+i'*sz+j) m1 m2 k6.uZ (by simpa using m3)
          obtain ⟨W',hW'⟩:=m4 w' jR q2 (by rw [q3];rfl) q4 q5 q6
          subst hst
          refine Good.skip (fin hv k6.uZ q1) (W':=W') ?_
          rw [hdst];exact hW'
         ·cases e
        ·cases e
       | _=>simp at e
      | _=>simp at e
     obtain ⟨⟨t1,ys,st1⟩,hys,e⟩:=Option.bind_eq_some_iff.1 e
     obtain ⟨⟨ob,m,s',t',z⟩,hc,e⟩:=Option.bind_eq_some_iff.1 e
     cases m with
     | sh=>
      cases z with
      | row sz es=>
       simp only at e
       obtain ⟨ee,hee,e⟩:=Option.bind_eq_some_iff.1 e
       obtain ⟨e',he',hst⟩:=Option.map_eq_some_iff.1 e
       obtain ⟨W1,k1,k2,k3,k4,k5,k6⟩:=BR cs vs h hrs hys
       have hp1:RR w W1 st1.L (.mpe o1 s1 c1 i1 ado) (a.eval p):=hp.ext (fun t b hb=>⟨k4 _ _ hb,rfl⟩) k3 (TrK.loose k5)
       obtain ⟨hL,hxc,hs⟩:=eF hc
       simp only at hL hxc hs;subst hs
       obtain ⟨ob2,hL2,_,hval⟩:=hp1
       rw [hL] at hL2;cases hL2
       obtain ⟨_,b,ik,cap,hvv,hv⟩:=hval _ hxc rfl (by intro e;cases e) _ _ rfl
       obtain ⟨arr,T,fr,m1,m2,m3,m4⟩:=Ym k1 hc hee k6 he' hvv
       obtain ⟨w',jR,q1,q2,q3,q4,q5,q6⟩:=mF (P:=P) vs 0 (b:=b) (off:=ik+i1*sz+ado) m1 m2 k6.uZ (by omega)
       obtain ⟨W',hW'⟩:=m4 w' jR q2 (by rw [q3];rfl) q4 q5 q6
       subst hst
       refine Good.skip (fin hv k6.uZ q1) (W':=W') ?_
       rw [hdst];exact hW'
      | _=>simp at e
     | _=>simp at e
    ·rename_i as off _
     split at e
     ·rename_i t1 v1 v0 hoff _ _
      cases e
      cases hrs with
      | @cons _ _ u1 _ hr1 hr2=>
       cases hr2
       have hr1:CRi w (W.F (tg (dm t1 (.sc v1)))) [.sc v1] [u1]:=hr1
       have hp:CRs w (fun b=>W.own b=some (.tr true)) [.cp as off] [a.eval p]:=hp
       generalize hev:a.eval p=pv at hp
       cases hp with
       | @cp _ _ _ _ b ik arr T fr us rest hb hh hd hc hn=>
        cases hn
        obtain ⟨u0,hu0,hc0⟩:=hc.get hoff
        have hp0:plain u0=true:=by cases hc0 with | sc hp _=>exact hp
        have hp1:plain u1=true:=by cases hr1 with | sc hp _=>exact hp
        obtain ⟨alg,T2,fr2,g1,g2⟩:=h.ouf b _ hb
        rw [hh] at g1
        cases g1
        have hul:off<us.length:=by
         rcases Nat.lt_or_ge off us.length with h' | h'
         ·exact h'
         ·rw [List.getElem?_eq_none h'] at hu0;cases hu0
        have hlt:ik+off<arr.size:=by
         have:=congrArg List.length hd
         simp only [List.length_drop,Array.length_toList,List.length_append] at this
         omega
        have hone:∀u∈[u1],u.oneCell'=true:=by
         intro u hu
         simp at hu
         subst hu
         exact CRi.one hr1
        obtain ⟨w',jR,q1,q2,q3,q4,q5,q6⟩:=mF (P:=P) [u1] 0 (b:=b) (off:=ik+off) hh g2 hone (by simp;omega)
        have q3:jR.toList=arr.toList.set (ik+off) u1:=by
         rw [q3]
         exact EM (by simpa using hlt)
        have hsz':jR.size=arr.size:=by
         have:=congrArg List.length q3
         simpa using this
        have hold:arr.toList[ik+off]?=some u0:=by
         rw [←List.getElem?_drop,hd,List.getElem?_append_left hul]
         exact hu0
        have anM:MC (w.heap[b]?) (w'.heap[b]?):=by
         refine .inr ⟨arr,jR,T,fr,hh,q2,hsz',fun i v hv=>?_⟩
         have e1:jR[i]?=(arr.toList.set (ik+off) u1)[i]?:=by rw [←q3,Array.getElem?_toList]
         rw [e1]
         by_cases ei:ik+off=i
         ·subst ei
          rw [List.getElem?_set_self (by simpa using hlt)]
          refine ⟨u1,rfl,.inr ⟨?_,hp1⟩⟩
          rw [←Array.getElem?_toList,hold] at hv
          cases hv
          exact hp0
         ·rw [List.getElem?_set_ne ei,Array.getElem?_toList]
          exact ⟨v,hv,.inl rfl⟩
        refine Good.skip (fin hev hone q1) (W':=W) ?_
        rw [hdst]
        exact h.scalar hb ⟨jR,T,fr,q2,by rw [hsz'];exact g2⟩ anM q6 q5 q4
     ·cases e
    ·cases e
   ·cases e
  ·cases e
end
end
end Go.Sim
