/- The operations that make slices. Conditions: none. -/
import Derived.Test.YtngbehdgjocndaaGreatSimM
import Derived.Great.BuildSlice
import Derived.Laws.MakeOwn
namespace Go.Sim
variable [Lim]
open Classical
set_option linter.unusedSimpArgs false
set_option linter.unusedVariables false
noncomputable section
section
variable {P:Program} {cfg:Cfg} {aY:FuncId→List Arg→Option (Res×List Out)} {B:Base} {st st':St} {a:Act} {w:World} {W:Wit} {o:Oper} {nt:Nat}
theorem CRo.append {Fp:Nat→Prop} {as vs bs as' vs' bs'} (h:CRo w Fp as vs bs) (h':CRo w Fp as' vs' bs'):CRo w Fp (as++as') (vs++vs') (bs++bs'):=by
 induction h with
 | nil=>exact h'
 | im h1 h2 _ ih=>exact .im h1 h2 ih
 | row h1 _ ih=>rw [List.append_assoc];exact .row h1 ih
omit [Lim] in
theorem Js {ag:Bool} {as:List AV} {e:AV} (h:AV.jO ag as=some e) (h1:∀y∈as,y.cells=[y]):e.cells=as:=by
 unfold AV.jO at h
 split at h
 ·cases h;rfl
 ·split at h
  ·rename_i y
   cases h
   exact h1 _ (by simp)
  ·cases h
theorem WV:∀(ps:List (Nat×SV)) (vs:List Value) {st st':St} {W:Wit} {ag:Bool} {ks:List (Option Nat)} {sz k t:Nat} {es:List AV},Rel B st a w W→ps.length=vs.length→
 (∀(i:Nat) p v,ps[i]?=some p→vs[i]?=some v→SR w W st.L p.2 v)→st.parts ag ks sz k ps=some (t,es,st')→
 ∃W',Rel B st' a w W'∧Ext st.L W st'.L W'∧(∀t b,W.F t b→W'.F t b)∧
  CRi w (W'.F (tg t)) (es.flatMap AV.cells) (vs.flatMap fun v=>v.cells.toList)∧(∀e∈es,e.cells.length=sz)∧(∀v∈vs,v.cells.size=sz)∧ps.map (·.1)=List.range' k vs.length∧es.length=vs.length
 | [],vs,st,st',W,ag,ks,sz,k,t,es,h,hl,hs,e=>by
  cases vs with
  | cons _ _=>cases hl
  | nil=>
   simp only [St.parts,Option.some.injEq,Prod.mk.injEq] at e
   obtain ⟨rfl,rfl,rfl⟩:=e
   exact ⟨W,h,Ext.refl _ _,fun _ _ hb=>hb,.nil,by simp,by simp,rfl,rfl⟩
 | (i,sv)::ps,vs,st,st',W,ag,ks,sz,k,t,es,h,hl,hs,e=>by
  cases vs with
  | nil=>cases hl
  | cons v vs=>
   cases sv with
   | v ag' cs=>
    simp only [St.parts] at e
    split at e
    ·rename_i hc
     simp only [Bool.and_eq_true] at hc
     have hik:=beq_eq hc.1
     have hcs:=beq_eq hc.2
     obtain ⟨⟨t1,as,st1⟩,he1,e⟩:=Option.bind_eq_some_iff.1 e
     obtain ⟨y,hy,e⟩:=Option.bind_eq_some_iff.1 e
     obtain ⟨⟨t2,es2,st2⟩,he2,e⟩:=Option.map_eq_some_iff.1 e
     cases e
     obtain ⟨ws,hrs,hcells,_⟩:=KO (hs 0 (i,.v ag' cs) v rfl rfl)
     obtain ⟨W1,k1,k2,k3,k4,k5,k6⟩:=BR cs ws h hrs he1
     have hv:=hcells k6.uZ
     have hyc:=Js hy k6.cells_one
     obtain ⟨W2,l1,l2,l3,l4,l5,l6,l7,l8⟩:=WV ps vs k1 (by simpa using hl) (fun i p v hp hv=>(hs (i+1) p v (by simpa using hp) (by simpa using hv)).ext (fun t b hb=>⟨k4 _ _ hb,rfl⟩) k3 (TrK.loose k5)) he2
     refine ⟨W2,l1,k3.trans l2,fun t b hb=>l3 t b (k4 t b hb),?_,?_,?_,?_,by simp [l8]⟩
     ·simp only [List.flatMap_cons,hyc,hv]
      exact (k6.mono fun b hb=>⟨l1.fle (Nat.le_max_left _ _) (l3 _ _ hb),rfl⟩).append (l4.mono fun b hb=>⟨l1.fle (Nat.le_max_right _ _) hb,rfl⟩)
     ·intro e he
      rcases List.mem_cons.1 he with rfl | he
      ·rw [hyc,k6.length,←hrs.length];exact hcs
      ·exact l5 e he
     ·intro u hu
      rcases List.mem_cons.1 hu with rfl | hu
      ·rw [←Array.length_toList,hv,←hrs.length];exact hcs
      ·exact l6 u hu
     ·simp [l7,hik,List.range'_succ]
    ·cases e
   | _=>cases e
omit [Lim] in
theorem JE {t el:TypeId} {sz:Nat} (hel:oG P t=some (el,sz)):P.underlying t=some (.slice el)∧∃inf,P.info? el=some inf∧inf.size=sz:=by
 unfold oG at hel
 split at hel
 ·rename_i e0 hu
  obtain ⟨inf,h1,h2⟩:=Option.map_eq_some_iff.1 hel
  cases h2
  exact ⟨hu,inf,h1,rfl⟩
 ·cases hel
theorem Yu (h:Rel B st a w W) {d:Nat} (hd:d<B.nt) {t el:TypeId} {inf:TypeInfo} {ps:Array (Nat×Operand)} {ks:List (Option Nat)} {zs:List RV} {n:Nat} (hu:P.underlying t=some (.slice el)) (hi:P.info? el=some inf) (hzs:zeroCells P el=some zs)
 (c2:0<inf.size) (c1:n=ps.size) (h1:ps.size=1) (c3:n*inf.size≤16777216) (e:st.IE d ks inf.size (ps.toList.map fun p=>(p.1,st.get p.2))=some st'):
 ∃r w' W',(Instr.buildSlice t n (ps.map fun (i,x)=>(i,a.eval x))).run P w= .ok r w'∧Rel B st' (a.put (some d) r) w' W':=by
 obtain ⟨⟨i,x⟩,rfl⟩:∃p,ps=#[p]:=by
  match ps,h1 with
  | ⟨[p]⟩,_=>exact ⟨p,rfl⟩
 have c1:n=1:=c1
 subst c1
 simp only [List.map_cons,List.map_nil] at e
 obtain ⟨ajg,z,hi',hz,hzr⟩:=IL (w:=w) (W:=W) (st:=st) hzs
 rw [hi] at hi';cases hi'
 unfold St.IE at e
 split at e
 ·rename_i r heq
  simp only [List.cons.injEq,Prod.mk.injEq,and_true] at heq
  obtain ⟨hi0,hg⟩:=heq
  subst hi0
  split at e
  ·rename_i hs1
   have hs1:=beq_eq hs1
   obtain ⟨⟨⟨m,t1,y⟩,st1⟩,ht,e⟩:=Option.bind_eq_some_iff.1 e
   have hx:=h.get x
   rw [hg] at hx
   obtain ⟨W1,k1,k2,k3,k4,k5,k6⟩:=zM h (eX hx) ht 0
   cases m with
   | sh=>
    cases y with
    | row z1 es=>
     simp only [Option.some.injEq] at e
     have hone:(a.eval x).cells=#[a.eval x]:=oneCell_cells (kL.uZ (kL.cons k6 kL.nil) _ (by simp))
     obtain ⟨_,_,ob,he,ho,hb⟩:=k6
     injection he with g1 g2
     subst g1 g2
     have hp1:Rel B st1 a {w with heap:=w.heap.push (.cells #[a.eval x] el)} (W1.give w.heap.size (.det 0)):=k1.push _ _
     have ajh:∀b,ob=some b→b<w.heap.size:=fun b hb'=>(k1.olt b _ (hb b hb')).1
     have zl:mg {w with heap:=w.heap.push (.cells #[a.eval x] el)} (W1.give w.heap.size (.det 0)) 0 ⟨.dp 0,t1,.row inf.size [.row z1 es]⟩ (.slice (some ⟨w.heap.size,0,none⟩) 1 1):=by
      refine ⟨_,_,[a.eval x],w.heap.size::(ob.toList++[]),rfl,.inr ⟨w.heap.size,0,1,#[a.eval x],el,(0,0),[],ob.toList++[],rfl,rfl,Ei,(fun i _=>by omega),(fun e he=>?_),by simp,?_,Nat.le_refl _,by rw [hs1];simp⟩,?_,?_⟩
      ·rw [List.mem_singleton.1 he,hs1];rfl
      ·exact .row (ho.mono (fun b hb=>⟨hb,wC (k1.flt b (k1.f2 hb))⟩) fun b hb'=>wC (ajh b hb')) .nil
      ·cases ob with
       | none=>exact List.nodup_cons.2 ⟨List.not_mem_nil,List.nodup_nil⟩
       | some b0=>
        have:=ajh b0 rfl
        refine List.nodup_cons.2 ⟨fun hm=>?_,List.nodup_cons.2 ⟨List.not_mem_nil,List.nodup_nil⟩⟩
        have hm:=List.mem_singleton.1 hm
        omega
      ·intro b hb'
       rcases List.mem_cons.1 hb' with rfl | hb'
       ·exact Eh _ _ _
       ·cases ob with
        | none=>simp at hb'
        | some b0=>
         have hlt:=ajh b0 rfl
         simp at hb'
         subst hb'
         rw [BD _ _ (by omega)]
         exact hb _ rfl
     obtain ⟨W2,l1⟩:=tY hp1 (d:=d) hd zl (.inr ⟨0,rfl⟩)
     refine ⟨.slice (some ⟨w.heap.size,0,none⟩) 1 1,{w with heap:=w.heap.push (.cells #[a.eval x] el)},W2,?_,by rw [←e];exact l1⟩
     have hsmall:¬1*inf.size>2 ^ 24:=by
      have:(2:Nat) ^ 24=16777216:=by decide
      omega
     have hf:=Great.fill_whole c2 [a.eval x] ((Array.range (1*inf.size)).map (z.cells[·% z.cells.size]!)) (fun v hv=>by rw [List.mem_singleton.1 hv,hone,hs1];rfl) (by simp)
     have hr:=run_buildSlice (P:=P) w t el 1 #[(0,a.eval x)] _ inf z hu hi hz hsmall (by omega) (by simpa using hf)
     rw [hone] at hr
     rw [show ((#[(0,x)]:Array (Nat×Operand)).map fun (i,x)=>(i,a.eval x))=#[(0,a.eval x)] by simp]
     exact hr
    | _=>simp at e
   | _=>simp at e
  ·cases e
 ·cases e
theorem SK (h:Rel B st a w W) (hn:nt=B.nt) {t:TypeId} {n:Nat} {ps:Array (Nat×Operand)} (ho:o.op= .buildSlice t n ps) (e:aH P cfg aY nt o st=some st'):Good P B o st' a w:=by
 simp only [aH,ho] at e
 obtain ⟨d,hd,hlt,e⟩:=atD e
 obtain ⟨⟨el,sz⟩,hel,e⟩:=Option.bind_eq_some_iff.1 e
 obtain ⟨ks,hks,e⟩:=Option.bind_eq_some_iff.1 e
 obtain ⟨zs,hzs,e⟩:=Option.bind_eq_some_iff.1 e
 obtain ⟨hu,inf,hi,rfl⟩:=JE hel
 split at e
 ·rename_i hc
  simp only [Bool.and_eq_true] at hc
  obtain ⟨⟨c1,c2⟩,c3⟩:=hc
  have c1:=beq_eq c1
  have c2:=zi c2
  have c3:=qH c3
  cases hdp:(ps.size.beq 1&&cfg.deep nt d) with
  | true=>
   rw [hdp] at e
   obtain ⟨r,w',W',p1,p2⟩:=Yu h (hn ▸ hlt) hu hi hzs c2 c1 (by rw [Bool.and_eq_true] at hdp;exact beq_eq hdp.1) (by omega) (t:=t) e
   exact Good.value (u:=r) (w':=w') (W':=W') (by simp only [execOp,ho,Sem.run_bind,p1,Result.andThen_ok,Sem.run_pure]) (by rw [hd];exact p2)
  | false=>
  rw [hdp] at e
  replace e:((st.parts (fJ P el) ks inf.size 0 (ps.toList.map fun p=>(p.1,st.get p.2))).map fun (x:Nat×List AV×St)=>
   ((x.2.2.newObj d false false [⟨.sh,fK ks x.1 x.2.1,.row inf.size x.2.1⟩]).1.cZ d (.v false [.own d (x.2.2.newObj d false false [⟨.sh,fK ks x.1 x.2.1,.row inf.size x.2.1⟩]).2.2 0])))=some st':=e
  obtain ⟨⟨tg',es,st1⟩,hp,e⟩:=Option.map_eq_some_iff.1 e
  have hg:=TT h ps
  obtain ⟨W1,k1,k2,k3,k4,k5,k6,k7,k8⟩:=WV (ps.toList.map fun p=>(p.1,st.get p.2)) (ps.toList.map fun p=>a.eval p.2) h (by simp) (fun i p v hp hv=>by
   rw [List.getElem?_map] at hp hv
   obtain ⟨q,h1,h2⟩:=Option.map_eq_some_iff.1 hp
   obtain ⟨q',h3,h4⟩:=Option.map_eq_some_iff.1 hv
   rw [h1] at h3;cases h3
   subst h2 h4
   exact h.get _) hp
  obtain ⟨ajg,z,hi',hz,hzr⟩:=IL (w:=w) (W:=W) (st:=st) hzs
  rw [hi] at hi';cases hi'
  have hlen:(ps.toList.map fun p=>a.eval p.2).length=n:=by simp [c1]
  have hparts:(ps.map fun (i,x)=>(i,a.eval x)).toList=((ps.toList.map fun p=>a.eval p.2).zipIdx 0).map fun x=>(x.2,x.1):=by
   have anO:ps.toList.map (·.1)=List.range' 0 ps.toList.length:=by
    have:=k7
    rw [List.map_map] at this
    simpa [Function.comp_def] using this
   rw [Array.toList_map]
   apply List.ext_getElem?
   intro i
   have hi:=congrArg (fun l:List Nat=>l[i]?) anO
   simp only [List.getElem?_map,List.getElem?_zipIdx] at hi ⊢
   cases hp:ps.toList[i]? with
   | none=>simp
   | some q=>
    have hlt:i<ps.toList.length:=by
     rcases Nat.lt_or_ge i ps.toList.length with h' | h'
     ·exact h'
     ·rw [List.getElem?_eq_none h'] at hp;cases hp
    rw [hp,List.getElem?_range' hlt] at hi
    simp at hi ⊢
    omega
  have hul:=k4.length
  have hes:es.length=n:=k8.trans hlen
  rw [flat_length k5,hes] at hul
  obtain ⟨hp1,hp2⟩:=JD k1 (sz:=inf.size) (t:=fK ks tg' es) (cap:=n) (rest:=[]) 0 el k5 (CRi.fK k4) (by omega) (by rw [List.append_nil,←hul];exact Nat.le_refl _)
  rw [hes] at hp2
  subst e
  obtain ⟨W2,l1⟩:=tY hp1 (d:=d) (hn ▸ hlt) hp2 (.inl rfl)
  refine Good.value (u:= .slice (some ⟨w.heap.size,0,none⟩) n n) (W':=W2) ?_ (by rw [hd];exact l1)
  have hsmall:¬n*inf.size>2 ^ 24:=by
   have:(2:Nat) ^ 24=16777216:=by decide
   omega
  by_cases hn0:n=0
  ·subst hn0
   have hps:ps=#[]:=Array.eq_empty_of_size_eq_zero c1.symm
   subst hps
   simp [execOp,ho,Instr.buildSlice,cO hu,nH hi,Instr.fill,newRow]
   rw [Array.eq_empty_of_size_eq_zero (xs:=Array.map (fun x=>default) (Array.range 0)) (by simp)]
  ·have hpos:¬n*inf.size=0:=by
    have:=Nat.mul_pos (Nat.pos_of_ne_zero hn0) c2
    omega
   have hf:=Great.fill_whole c2 (ps.toList.map fun p=>a.eval p.2) ((Array.range (n*inf.size)).map (z.cells[·% z.cells.size]!)) k6 (by simp [←c1])
   have hr:=run_buildSlice (P:=P) w t el n (ps.map fun (i,x)=>(i,a.eval x)) _ inf z hu hi hz hsmall hpos (by rw [hparts];exact hf)
   simp only [execOp,ho,Sem.run_bind,hr,Result.andThen_ok,Sem.run_pure,World.alloc,List.append_nil]
 ·cases e
omit [Lim] in
theorem abK (z:Value) (n sz:Nat) (hs:0<sz) (hz:z.cells.size=sz):((Array.range (n*sz)).map (z.cells[·% sz]!)).toList=((List.replicate n z).flatMap fun v=>v.cells.toList):=by
 apply List.ext_getElem?
 intro k
 rw [Great.flat_get hs (List.replicate n z) (fun v hv=>by rw [List.eq_of_mem_replicate hv];exact hz) k]
 by_cases hk:k<n*sz
 ·have h1:k / sz<n:=(Nat.div_lt_iff_lt_mul hs).2 hk
  have h2:k % sz<sz:=Nat.mod_lt _ hs
  have h3:k % sz<z.cells.size:=by omega
  simp [hk,List.getElem?_replicate,h1,h3]
 ·have h1:n≤k / sz:=(Nat.le_div_iff_mul_le hs).2 (by omega)
  rw [List.getElem?_eq_none (by simp;omega),List.getElem?_eq_none (by simpa using h1)]
  rfl
theorem PY {w:World} {W:Wit} {st:St} {Fp:Nat→Prop}:∀(zs:List RV) (vs:List Value) {ks:List (Option Nat)} {t:Nat} {as:List AV} {st':St},zs.all RV.nul=true→RRs w W st.L zs vs→st.iM ks zs=some (t,as,st')→CRo w Fp as vs []
 | [],_,ks,t,as,st',_,hr,e=>by
  cases hr
  simp only [St.iM,Option.some.injEq,Prod.mk.injEq] at e
  obtain ⟨-,rfl,-⟩:=e
  exact .nil
 | r::zs,_,ks,t,as,st',hz,hr,e=>by
  rw [List.all_cons,Bool.and_eq_true] at hz
  cases hr with
  | @cons _ _ v vs h1 h2=>
   simp only [St.iM] at e
   obtain ⟨⟨t1,y1,st1⟩,e1,e⟩:=Option.bind_eq_some_iff.1 e
   obtain ⟨⟨t2,ys2,st2⟩,e2,e⟩:=Option.map_eq_some_iff.1 e
   cases e
   have hst:st1=st∧CRo w Fp [y1] [v] []:=by
    unfold St.fix at e1
    cases r with
    | nil=>
     simp only [St.view,Option.map_some,Option.some.injEq,Prod.mk.injEq,St.freeze] at e1
     obtain ⟨-,rfl,rfl⟩:=e1
     have hv:v= .slice none 0 0:=h1
     exact ⟨rfl,.row (ob:=none) (.inl ⟨rfl,⟨_,hv⟩,rfl⟩) .nil⟩
    | im t0 y=>
     cases y with
     | sc u=>
      simp only [St.view,Option.map_some,Option.some.injEq,Prod.mk.injEq,St.freeze] at e1
      obtain ⟨-,rfl,rfl⟩:=e1
      refine ⟨rfl,.im (fun _ _ e=>by cases e) ?_ .nil⟩
      cases h1 with
      | sc hp _=>exact .sc hp .nil
     | _=>cases hz.1
    | _=>cases hz.1
   obtain ⟨hst,hy⟩:=hst
   rw [hst] at e2
   exact hy.append (PY zs vs hz.2 h2 e2)
theorem WW (h:Rel B st a w W) {sz t cap:Nat} {es:List AV} {us:List Value} (k:Nat) (T:TypeId) (hs:∀e∈es,e.cells.length=sz) (hc:CRo w (W.F (tg t)) (es.flatMap AV.cells) us [])
 (hl:es.length≤cap) (hr:cap*sz≤us.length):
 mg {w with heap:=w.heap.push (.cells us.toArray T)} (W.give w.heap.size (.det k)) k ⟨.dp 0,t,.row sz es⟩ (.slice (some ⟨w.heap.size,0,none⟩) es.length cap):=by
 refine ⟨sz,es,us,[w.heap.size],rfl,.inr ⟨w.heap.size,0,cap,us.toArray,T,(0,0),[],[],rfl,rfl,Ei,fun i _=>by omega,hs,by simp,?_,hl,by simpa using hr⟩,by simp,fun b hb=>?_⟩
 ·exact hc.mono (fun b hb=>⟨hb,wC (h.flt b (h.f2 hb))⟩) fun b hb=>by cases hb
 ·rw [List.mem_singleton.1 hb];exact Eh _ _ _
theorem UU (h:Rel B st a w W) (hn:nt=B.nt) {t:TypeId} {n c:Operand} (ho:o.op= .makeSlice t n c) (e:aH P cfg aY nt o st=some st'):Good P B o st' a w:=by
 simp only [aH,ho] at e
 obtain ⟨d,hd,hlt,e⟩:=atD e
 obtain ⟨⟨el,sz⟩,hel,e⟩:=Option.bind_eq_some_iff.1 e
 obtain ⟨zs,hzs,e⟩:=Option.bind_eq_some_iff.1 e
 obtain ⟨hu,inf,hi,rfl⟩:=JE hel
 obtain ⟨ajg,z,hi',hz,hzr⟩:=IL (w:=w) (W:=W) (st:=st) hzs
 rw [hi] at hi';cases hi'
 split at e
 ·cases e
 ·rename_i hzl
  have hzl:zs.length=inf.size:=by
   have:zs.length.beq inf.size=true:=by simpa using hzl
   exact beq_eq this
  have adr:z.cells.size=inf.size:=by rw [←Array.length_toList,←hzr.length];exact hzl
  obtain ⟨ks,hks,e⟩:=Option.bind_eq_some_iff.1 e
  obtain ⟨⟨k1,n1⟩,hn1,e⟩:=Option.bind_eq_some_iff.1 e
  obtain ⟨⟨k2,n2⟩,hn2,e⟩:=Option.bind_eq_some_iff.1 e
  obtain ⟨m,hm,e⟩:=Option.bind_eq_some_iff.1 e
  obtain ⟨hm0,hm1⟩:=xm hm
  have hv1:=KL hn1 (h.get n)
  have hv2:=KL hn2 (h.get c)
  split at e
  ·rename_i hc
   obtain ⟨hc1,hroom,hc3⟩:=hc
   replace hc1:n1=n2:=hc1
   replace hc3:n1<9223372036854775808:=hc3
   replace hm0:0≤n1:=hm0
   replace hm1:n1.toNat=m:=hm1
   have hbytes:P.bytesOf el=inf.bytes:=by simp [Program.bytesOf,hi]
   have hroom':room m inf.bytes=true:=by rw [←hbytes];exact hroom
   simp only [room,Bool.and_eq_true] at hroom'
   have hb0:=zi hroom'.1
   have hb1:=qH hroom'.2
   obtain ⟨⟨tg',as,st1⟩,hfx,e2⟩:=Option.bind_eq_some_iff.1 e
   obtain ⟨y,hy,e3⟩:=Option.map_eq_some_iff.1 e2
   obtain ⟨W1,l1,l2,l3,l4,l5,l6⟩:=BR zs z.cells.toList h hzr hfx
   have hyc:=Js hy l6.cells_one
   have hyl:y.cells.length=inf.size:=by rw [hyc,l6.length,Array.length_toList];exact adr
   have hs:∀e∈List.replicate m y,e.cells.length=inf.size:=fun e he=>by rw [List.eq_of_mem_replicate he];exact hyl
   have ads:CRi w (W1.F (tg tg')) ((List.replicate m y).flatMap AV.cells) ((List.replicate m z).flatMap fun v=>v.cells.toList):=by
    have:∀m,CRi w (W1.F (tg tg')) ((List.replicate m y).flatMap AV.cells) ((List.replicate m z).flatMap fun v=>v.cells.toList):=by
     intro m
     induction m with
     | zero=>exact .nil
     | succ m ih=>
      simp only [List.replicate_succ,List.flatMap_cons,hyc]
      exact l6.append ih
    exact this m
   have htag:CRi w (W1.F (tg (fK ks tg' [y]))) ((List.replicate m y).flatMap AV.cells) ((List.replicate m z).flatMap fun v=>v.cells.toList):=by
    unfold fK
    cases ks.any (·.isSome) with
    | true=>exact ads
    | false=>
    cases hfl:[y].all AV.flat with
    | false=>exact ads
    | true=>
     refine CRi.flat ?_ ads
     intro x hx
     obtain ⟨y',hy',hx⟩:=List.mem_flatMap.1 hx
     rw [List.eq_of_mem_replicate hy'] at hx
     simp only [List.all_cons,List.all_nil,Bool.and_true,AV.flat] at hfl
     exact List.all_eq_true.1 hfl x hx
   have hul:=htag.length
   rw [flat_length hs,List.length_replicate] at hul
   obtain ⟨hp1,hp2⟩:=JD l1 (sz:=inf.size) (t:=fK ks tg' [y]) (cap:=m) (rest:=[]) 0 el hs htag (by simp) (by rw [List.append_nil,←hul];exact Nat.le_refl _)
   rw [List.length_replicate] at hp2
   have zl:mg {w with heap:=w.heap.push (.cells (((List.replicate m z).flatMap fun v:Value=>v.cells.toList)++[]).toArray el)} (W1.give w.heap.size (.det 0)) 0 ⟨bif cfg.deep nt d&&zs.all RV.nul then .dp 0 else .sh,fK ks tg' [y],.row inf.size (List.replicate m y)⟩ (.slice (some ⟨w.heap.size,0,none⟩) m m)∧
    ((bif cfg.deep nt d&&zs.all RV.nul then OM.dp 0 else .sh)= .sh∨∃n,(bif cfg.deep nt d&&zs.all RV.nul then OM.dp 0 else .sh)= .dp n):=by
    cases hdp:(cfg.deep nt d&&zs.all RV.nul) with
    | false=>exact ⟨hp2,.inl rfl⟩
    | true=>
     rw [Bool.and_eq_true] at hdp
     have hro:∀m,CRo w (W1.F (tg (fK ks tg' [y]))) ((List.replicate m y).flatMap AV.cells) ((List.replicate m z).flatMap fun v:Value=>v.cells.toList) []:=by
      intro m
      induction m with
      | zero=>exact .nil
      | succ m ih=>
       simp only [List.replicate_succ,List.flatMap_cons,hyc]
       exact (PY zs _ hdp.2 hzr hfx).append ih
     have:=WW l1 (cap:=m) 0 el hs (hro m) (by simp) (by rw [←hul];exact Nat.le_refl _)
     rw [List.length_replicate] at this
     rw [List.append_nil]
     exact ⟨this,.inr ⟨0,rfl⟩⟩
   obtain ⟨W2,q1⟩:=tY hp1 (d:=d) (hn ▸ hlt) zl.1 zl.2
   subst e3
   refine Good.value (u:= .slice (some ⟨w.heap.size,0,none⟩) m m) (W':=W2) ?_ (by rw [hd];exact q1)
   have hr:=run_make (P:=P) w t el inf z hu hi hz k1 k2 n1 n1 hm0 (Int.le_refl _) (by
    have h1:((m*inf.bytes:Nat):Int)≤140737488355328:=by omega
    rw [Int.natCast_mul] at h1
    rw [←hm1,Int.toNat_of_nonneg hm0] at h1
    rw [Int.mul_comm];omega) (by omega)
   rw [hm1] at hr
   have harr:madeCells z.cells (m*inf.size)=((List.replicate m z).flatMap fun v=>v.cells.toList).toArray:=by
    apply Array.ext'
    by_cases hs0:inf.size=0
    ·have h1:(madeCells z.cells (m*inf.size)).toList=[]:=List.eq_nil_of_length_eq_zero (by rw [Array.length_toList,size_madeCells,hs0];rfl)
     have h2:((List.replicate m z).flatMap fun v=>v.cells.toList)=[]:=List.eq_nil_of_length_eq_zero (by rw [←hul,hs0];rfl)
     rw [h1,h2]
    ·have:=abK z m inf.size (Nat.pos_of_ne_zero hs0) adr
     unfold madeCells
     rw [adr]
     exact this
   have anP:a.eval n= .int k1 n1:=hv1
   have anQ:a.eval c= .int k2 n1:=by rw [hc1];exact hv2
   rw [harr] at hr
   simp only [execOp,ho,anP,anQ,Sem.run_bind,hr,Result.andThen_ok,Sem.run_pure,World.alloc,List.append_nil]
  ·cases e
theorem Rel.ali (h:Rel B st a w W) (k k2:Nat):Rel B st a w (W.xC (fun b=>W.own b=some (.det k2)) (some (.det k))):=by
 have hne:∀b x,W.own b=some x→x≠ .det k2→(W.xC (fun b=>W.own b=some (.det k2)) (some (.det k))).own b=some x:=by
  intro b x hb hx
  rw [kS]
  ·exact hb
  ·intro e;exact hx (Option.some.inj (hb.symm.trans e))
 have hsome:∀b x,(W.xC (fun b=>W.own b=some (.det k2)) (some (.det k))).own b=some x→∃y,W.own b=some y:=by
  intro b x hb
  by_cases e:W.own b=some (.det k2)
  ·exact ⟨_,e⟩
  ·rw [kS W e] at hb;exact ⟨x,hb⟩
 have hD:TrK w w W (W.xC (fun b=>W.own b=some (.det k2)) (some (.det k))):=TrK.of fun x b hb=>⟨hne b _ hb (by intro e;cases e),rfl⟩
 have hE:Ext st.L W st.L (W.xC (fun b=>W.own b=some (.det k2)) (some (.det k))):=fun o' ob hL=>
  ⟨ob,hL,Nat.le_refl _,Nat.le_refl _,fun _ y hy=> .inr ⟨y,hy,rfl,rfl,fun hm=>⟨hm,fun _ es he=>⟨es,he,rfl⟩⟩,qG.same rfl⟩,fun _=>⟨rfl,rfl⟩⟩
 refine h.step (hio:=⟨rfl,rfl⟩) (L':=st.L) (w':=w) (W':=W.xC (fun b=>W.own b=some (.det k2)) (some (.det k))) (fun _ _ hb=>hb) h.f01 h.f12 (fun _ _ hb=> .inl hb) (fun b hb=>?_) h.flt (fun b x hb=>?_) (fun _ _=>rfl) hE (Par.same (fun _=>rfl) fun _=>rfl) (fun o ob hL=>?_) (fun _ _ _=>rfl) (Nat.le_refl _) hD (fun b hb=> .inl hb) (fun b x hb=> .inl ⟨hsome b x hb,.inl rfl⟩)
 ·have hb:=h.qF b hb
  rw [kS]
  ·exact hb
  ·rw [hb];intro e;cases e
 ·obtain ⟨y,hy⟩:=hsome b x hb
  exact h.olt b y hy
 ·refine (h.iJ o ob hL).keep (fun _ _ hb=>⟨hb,rfl⟩) rfl rfl (fun _=>rfl) (fun _=>rfl) (fun c b hb=>⟨hne b _ hb (by intro e;cases e),rfl⟩) (fun hm=>⟨rfl,fun hf=>?_⟩) hD
  obtain ⟨arr,T,fr,h1,h2,h3,h4,h5⟩:=(h.iJ o ob hL).mem hm
  exact hne _ _ (h4 hf) (by intro e;cases e)
theorem Deep.elems {Fp:Nat→Prop} {sz:Nat} {es:List AV} {v:Value} {us:List Value} {bs:List Nat} (h:Deep w Fp none sz es v us bs):
 (∀x∈es,x.cells.length=sz)∧es.length*sz=us.length∧(Builtin.lenOf v).run P w= .ok es.length w∧(∀w':World,(∀(b:Nat) o,w.heap[b]?=some o→w'.heap[b]?=some o)→(Builtin.firstCells sz es.length v).run P w'= .ok us.toArray w')∧
   ∃ibs,(∀b∈ibs,b∈bs)∧(bs.Nodup→ibs.Nodup)∧CRo w Fp (es.flatMap AV.cells) us ibs:=by
 rcases h with ⟨rfl,⟨x,rfl⟩,rfl,rfl⟩ | ⟨b,off,cap,arr,T,fr,rest,ibs,rfl,rfl,hh,hf,hs,hd,hc,hl,hr⟩
 ·exact ⟨by simp,by simp,by simp [Builtin.lenOf],(fun w' _=>by cases x<;>simp [Builtin.firstCells,loadCells,loadCellsFrom]),[],by simp,by simp,.nil⟩
 ·have hl':=hc.length
  rw [flat_length hs] at hl'
  refine ⟨hs,hl',by simp [Builtin.lenOf],fun w' hw'=>?_,ibs,fun x hx=>List.mem_cons_of_mem _ hx,fun hn=>(List.nodup_cons.1 hn).2,hc⟩
  unfold Builtin.firstCells
  simp only
  rw [hl']
  refine run_loadCells_list (P:=P) (w:=w') _ us fun j u hj=>?_
  rw [kK,KJ (hw' _ _ hh)]
  have hjl:j<us.length:=by
   rcases Nat.lt_or_ge j us.length with h' | h'
   ·exact h'
   ·rw [List.getElem?_eq_none h'] at hj;cases hj
  have:(arr.toList.drop off)[j]?=some u:=by rw [hd,List.getElem?_append_left hjl];exact hj
  rw [List.getElem?_drop] at this
  simpa using this
omit [Lim] in
theorem Yv {sT xT ty e:TypeId} {inf:TypeInfo} {z:Value} {sz n m:Nat} (hs:P.underlying sT=some (.slice e)) (hi:P.info? e=some inf) (hz:inf.zero=some z) (hsz:inf.size=sz)
 (hdx:(∃e2,P.underlying xT=some (.slice e2))∨P.underlying xT=some .string) {v y:Value} {us:List Value} (hyl:(Builtin.lenOf y).run P w= .ok m w) (hyc:(Builtin.firstCells sz m y).run P w= .ok us.toArray w)
 (hb0:0<inf.bytes) (hroom:(n+m) *inf.bytes≤140737488355328) (base:Option Addr) (cap:Nat) (hv:v= .slice base n cap):(Builtin.append_ #[sT,xT] ty #[v,y]).run P w=
   if n+m≤cap then
    (match base with
      | some a=>((storeCells (a.add (n*sz)) us).run P w).andThen fun _ w'=> .ok (.slice base (n+m) cap) w'
      | none=> .ok (.slice base (n+m) cap) w)
   else
    ((Builtin.firstCells sz n v).run P {w with drawn:=w.drawn+1}).andThen fun old w1=>((Builtin.firstCells sz m y).run P w1).andThen fun new w2=>
      .ok (.slice (some ⟨w2.heap.size,0,none⟩) (n+m) ((Question.appendCap (n+m) cap e).cut (w.tape w.drawn (.appendCap (n+m) cap e))))
       {w2 with heap:=w2.heap.push (.cells (old++new++Builtin.zeroCells z.cells ((Question.appendCap (n+m) cap e).cut (w.tape w.drawn (.appendCap (n+m) cap e)) - (n+m))) e)}:=by
 subst hv
 have alf:n+m≤140737488355328:=Nat.le_trans (Nat.le_mul_of_pos_right _ hb0) hroom
 have hcap:¬n+m≤cap→¬(Builtin.nextslicecap (n+m) cap*inf.bytes>2 ^ 48):=by
  intro hc
  have h1:=PR (need:=n+m) (cap:=cap) (by omega)
  have h2:=Nat.mul_le_mul_right inf.bytes h1
  have h3:2* (n+m) *inf.bytes=2* ((n+m) *inf.bytes):=by rw [Nat.mul_assoc]
  have h4:(2:Nat) ^ 48=281474976710656:=by decide
  omega
 have adi:¬(9223372036854775807:Int) < (n:Int)+(m:Int):=by omega
 by_cases hc:n+m≤cap
 ·rw [if_pos hc]
  rcases hdx with ⟨e2,hdx⟩ | hdx<;>cases base<;>
   simp [Builtin.append_,cO hs,cO hdx,nH hi,hsz,hyl,hc,hyc]
 ·rw [if_neg hc]
  have hcap':¬281474976710656<Builtin.nextslicecap (n+m) cap*inf.bytes:=by
   have:=hcap hc
   simpa using this
  rcases hdx with ⟨e2,hdx⟩ | hdx<;>
   simp [Builtin.append_,cO hs,cO hdx,nH hi,hsz,hyl,hc,Eg hi,adi,hcap',Question.forced,zeroValue,hz,newRow]
theorem WX (h:Rel B st a w W) {sT xT ty e:TypeId} {inf:TypeInfo} {z:Value} {sz:Nat} (hs:P.underlying sT=some (.slice e)) (hi:P.info? e=some inf) (hz:inf.zero=some z) (hzs:z.cells.size=inf.size) (hsz:inf.size=sz)
 (hdx:(∃e2,P.underlying xT=some (.slice e2))∨P.underlying xT=some .string) {k t t2:Nat} {es ys:List AV} {v y:Value} {us0 us:List Value} {bs bs2:List Nat} (hv:Deep w (W.F (tg t)) none sz es v us0 bs) (hy:Deep w (W.F (tg t2)) none sz ys y us bs2)
 (hn:(bs++bs2).Nodup) (hob:∀b∈bs++bs2,W.own b=some (.det k)) (hb0:0<inf.bytes) (hroom:(es.length+ys.length) *inf.bytes≤140737488355328):
 ∃u w' W',(Builtin.append_ #[sT,xT] ty #[v,y]).run P w= .ok u w'∧Rel B st a w' W'∧mg w' W' k ⟨.dp 0,Nat.max t t2,.row sz (es++ys)⟩ u:=by
 have hF1:∀b,W.F (tg t) b→W.F (tg (Nat.max t t2)) b:=fun b hb=>h.fle (Nat.le_max_left _ _) hb
 have hF2:∀b,W.F (tg t2) b→W.F (tg (Nat.max t t2)) b:=fun b hb=>h.fle (Nat.le_max_right _ _) hb
 obtain ⟨hys,hul,hyl,hyc,SL,hi1,hi2,hyr⟩:=hy.elems (P:=P)
 obtain ⟨hes,Yo,_,hvc,ibs,hi3,hi4,hvr⟩:=hv.elems (P:=P)
 have hnn:=List.nodup_append.1 hn
 have aga:CRo w (W.F (tg (Nat.max t t2))) ((es++ys).flatMap AV.cells) (us0++us) (ibs++SL):=by
  rw [List.flatMap_append]
  exact (hvr.mono (fun b hb=>⟨hF1 b hb,rfl⟩) fun _ _=>rfl).append (hyr.mono (fun b hb=>⟨hF2 b hb,rfl⟩) fun _ _=>rfl)
 have hin:(ibs++SL).Nodup:=List.nodup_append.2 ⟨hi4 hnn.1,hi2 hnn.2.1,fun x hx y hy=>hnn.2.2 x (hi3 x hx) y (hi1 y hy)⟩
 have hio:∀b∈ibs++SL,W.own b=some (.det k):=fun b hb=>hob b (by
  rcases List.mem_append.1 hb with hb | hb
  ·exact List.mem_append_left _ (hi3 b hb)
  ·exact List.mem_append_right _ (hi1 b hb))
 have hall:∀x∈es++ys,x.cells.length=sz:=fun x hx=>by
  rcases List.mem_append.1 hx with hx | hx
  ·exact hes x hx
  ·exact hys x hx
 have key:=fun base cap hv=>Yv (P:=P) (ty:=ty) (w:=w) (v:=v) (n:=es.length) (m:=ys.length) hs hi hz hsz hdx hyl (hyc w fun _ _ h=>h) hb0 hroom base cap hv
 have grow:∀(base:Option Addr) (cap:Nat),v= .slice base es.length cap→¬es.length+ys.length≤cap→
  ∃u w' W',(Builtin.append_ #[sT,xT] ty #[v,y]).run P w= .ok u w'∧Rel B st a w' W'∧mg w' W' k ⟨.dp 0,Nat.max t t2,.row sz (es++ys)⟩ u:=by
  intro base cap hv hc
  have hk:=key base cap hv
  rw [if_neg hc,hvc {w with drawn:=w.drawn+1} (fun _ _ h=>h)] at hk
  simp only [Result.andThen_ok] at hk
  rw [hyc {w with drawn:=w.drawn+1} (fun _ _ h=>h)] at hk
  simp only [Result.andThen_ok] at hk
  have hge:es.length+ys.length≤(Question.appendCap (es.length+ys.length) cap e).cut (w.tape w.drawn (.appendCap (es.length+ys.length) cap e)):=by
   simp only [Question.cut];omega
  generalize hN:(Question.appendCap (es.length+ys.length) cap e).cut (w.tape w.drawn (.appendCap (es.length+ys.length) cap e))=N at hk hge
  refine ⟨_,_,_,hk,(h.drawn (w.drawn+1)).push _ (.det k),sz,es++ys,us0++us,w.heap.size::(ibs++SL),rfl,.inr ⟨w.heap.size,0,N,_,e,(0,0),(Builtin.zeroCells z.cells (N - (es.length+ys.length))).toList,ibs++SL,by simp,rfl,Ei,fun i _=>by omega,hall,by simp,?_,by simpa using hge,?_⟩,?_,?_⟩
  ·exact aga.mono (fun b hb=>⟨hb,wC (h.flt b (h.f2 hb))⟩) fun b hb=>wC (h.olt b _ (hio b hb)).1
  ·simp only [Nat.zero_add,Array.size_append,List.size_toArray,GK,hzs,hsz]
   rw [←Yo,←hul,←Nat.add_mul,←Nat.add_mul]
   exact Nat.mul_le_mul_right _ (by omega)
  ·refine List.nodup_cons.2 ⟨fun hm=>?_,hin⟩
   have:=(h.olt _ _ (hio _ hm)).1
   omega
  ·intro b hb
   rcases List.mem_cons.1 hb with rfl | hb
   ·exact Eh _ _ _
   ·have:=(h.olt b _ (hio b hb)).1
    rw [BD _ _ (by show b≠w.heap.size;omega)]
    exact hio b hb
 rcases hv with ⟨rfl,⟨x0,rfl⟩,rfl,rfl⟩ | ⟨b,off,cap,arr,T,fr,rest,adt,rfl,rfl,hh,hfr,hs0,hd,hcr,hlc,hrm⟩
 ·by_cases hm:ys=[]
  ·subst hm
   have hk:=key x0 0 rfl
   have hu0:us=[]:=List.length_eq_zero_iff.1 (by simpa using hul.symm)
   simp only [List.length_nil,Nat.add_zero,Nat.le_refl,if_true,hu0,storeCells] at hk
   have hk:(Builtin.append_ #[sT,xT] ty #[.slice x0 0 0,y]).run P w= .ok (.slice x0 0 0) w:=by
    cases x0 with
    | none=>exact hk
    | some a=>exact hk
   exact ⟨_,w,W,hk,h,sz,[],[],[],rfl,.inl ⟨rfl,⟨_,rfl⟩,rfl,rfl⟩,by simp,by simp⟩
  ·exact grow x0 0 rfl (by have:=List.length_pos_iff.2 hm;simp;omega)
 ·by_cases hc:es.length+ys.length≤cap
  ·have hk:=key (some ⟨b,off,none⟩) cap rfl
   rw [if_pos hc] at hk
   simp only [kK] at hk
   have hsum:(es.length+ys.length) *sz≤cap*sz:=Nat.mul_le_mul_right _ hc
   rw [Nat.add_mul] at hsum
   have hone:∀u∈us,u.oneCell'=true:=CRo.uZ hyr
   obtain ⟨w',jR,h1,h2,h3,h4,h5,anR⟩:=mF (P:=P) us 0 (b:=b) (off:=off+es.length*sz) hh hfr hone (by omega)
   rw [h1] at hk
   simp only [Result.andThen_ok] at hk
   have hown:=hob b (by simp)
   have hsz':jR.size=arr.size:=by
    have:=congrArg List.length h3
    rw [gV (by simp;omega)] at this
    simpa using this
   have hF:∀t b',W.F (tg t) b'→W.F (tg t) b'∧w'.heap[b']?=w.heap[b']?:=fun t b' hb=>⟨hb,h4 b' fun e=>by
    have:=h.qF b' (h.f2 hb)
    rw [e,hown] at this;cases this⟩
   have alj:CRo w (W.F (tg (Nat.max t t2))) ((es++ys).flatMap AV.cells) (us0++us) (adt++SL):=by
    rw [List.flatMap_append]
    exact (hcr.mono (fun b hb=>⟨hF1 b hb,rfl⟩) fun _ _=>rfl).append (hyr.mono (fun b hb=>⟨hF2 b hb,rfl⟩) fun _ _=>rfl)
   have hnb:(b::(adt++SL)).Nodup:=by
    have h6:=List.nodup_cons.1 hnn.1
    refine List.nodup_cons.2 ⟨fun hm=>?_,List.nodup_append.2 ⟨h6.2,hi2 hnn.2.1,fun x hx y hy=>hnn.2.2 x (List.mem_cons_of_mem _ hx) y (hi1 y hy)⟩⟩
    rcases List.mem_append.1 hm with hm | hm
    ·exact h6.1 hm
    ·exact hnn.2.2 b (List.mem_cons_self ..) b (hi1 b hm) rfl
   have hbo:∀x∈b::(adt++SL),W.own x=some (.det k):=by
    intro x hx
    refine hob x ?_
    rcases List.mem_cons.1 hx with rfl | hx
    ·simp
    ·rcases List.mem_append.1 hx with hx | hx
     ·exact List.mem_append_left _ (List.mem_cons_of_mem _ hx)
     ·exact List.mem_append_right _ (hi1 x hx)
   refine ⟨_,w',W,hk,h.write hown ⟨jR,T,fr,h2,by rw [hsz'];exact hfr⟩ anR h5 h4,sz,es++ys,us0++us,b::(adt++SL),rfl,.inr ⟨b,off,cap,jR,T,fr,rest.drop us.length,adt++SL,by simp,rfl,h2,?_,hall,?_,?_,?_,?_⟩,hnb,hbo⟩
   ·rw [hsz'];exact hfr
   ·rw [h3]
    apply List.ext_getElem?
    intro j
    have hdj:∀j,arr.toList[off+j]?=(us0++rest)[j]?:=fun j=>by rw [←hd,List.getElem?_drop]
    rw [List.getElem?_drop,mD (by simp;omega)]
    by_cases j1:j<us0.length
    ·rw [if_pos (by omega),hdj,List.getElem?_append_left j1,List.getElem?_append_left (by simp;omega),List.getElem?_append_left j1]
    ·rw [if_neg (by omega)]
     by_cases j2:j<us0.length+us.length
     ·rw [if_pos (by omega),List.getElem?_append_left (by simp;omega),List.getElem?_append_right (by omega)]
      congr 1;omega
     ·rw [if_neg (by omega),hdj,List.getElem?_append_right (by omega),List.getElem?_append_right (by simp;omega),List.getElem?_drop]
      congr 1;simp;omega
   ·refine alj.mono (fun b' hb'=>hF _ _ hb') fun x hx=>h4 x fun e=>?_
    subst e
    exact (List.nodup_cons.1 hnb).1 hx
   ·simpa using hc
   ·rw [hsz'];exact hrm
  ·exact grow (some ⟨b,off,none⟩) cap rfl hc
theorem Yw (h:Rel B st a w W) {d:Nat} (hd:d<B.nt) {sT xT ty e:TypeId} {inf:TypeInfo} {z:Value} {sz:Nat} (hs:P.underlying sT=some (.slice e)) (hi:P.info? e=some inf) (hz:inf.zero=some z) (hzs:z.cells.size=inf.size) (hsz:inf.size=sz)
 (hdx:(∃e2,P.underlying xT=some (.slice e2))∨P.underlying xT=some .string) {x y:RV} {v u:Value} (hx:RR w W st.L x v) (hy:RR w W st.L y u) (e:st.IC d sz inf.bytes x y=some st'):
 ∃r w' W',(Builtin.append_ #[sT,xT] ty #[v,u]).run P w= .ok r w'∧Rel B st' (a.put (some d) r) w' W':=by
 unfold St.IC at e
 obtain ⟨⟨⟨m,t,q⟩,st1⟩,ht,e⟩:=Option.bind_eq_some_iff.1 e
 cases m with
 | dp n=>
  cases q with
  | row z1 es=>
   simp only at e
   obtain ⟨⟨⟨m2,t2,q2⟩,st2⟩,ht2,e⟩:=Option.bind_eq_some_iff.1 e
   cases m2 with
   | dp n2=>
    cases q2 with
    | row z2 ys=>
     simp only at e
     split at e
     ·rename_i hc
      simp only [Bool.and_eq_true] at hc
      obtain ⟨⟨c1,c2⟩,c3⟩:=hc
      have c1:=beq_eq c1
      have c2:=beq_eq c2
      subst c1 c2
      simp only [room,Bool.and_eq_true] at c3
      injection e with e
      obtain ⟨W1,k1,k2,k3,k4,k5,k6⟩:=zM h hx ht 0
      obtain ⟨W2,l1,l2,l3,l4,l5,l6⟩:=zM k1 (hy.ext (fun t b hb=>⟨k4 _ _ hb,rfl⟩) k3 (TrK.loose k5)) ht2 1
      have k6':=k6.step (fun t b hb=>⟨l4 _ _ hb,rfl⟩) (fun b hb=>⟨l5 b _ rfl hb,rfl⟩) (TrK.loose l5)
      obtain ⟨_,_,us0,bs,he1,d1,d2,d3⟩:=k6'
      obtain ⟨_,_,us1,bs2,he2,f1,f2,f3⟩:=l6
      injection he1 with g1 g2
      injection he2 with g3 g4
      subst g1 g2 g3 g4
      have r1:=l1.ali 0 1
      have hown:∀b∈bs++bs2,(W2.xC (fun b=>W2.own b=some (.det 1)) (some (.det 0))).own b=some (.det 0):=by
       intro b hb
       rcases List.mem_append.1 hb with hb | hb
       ·rw [kS]
        ·exact d3 b hb
        ·rw [d3 b hb];intro e;cases e
       ·exact MG _ (f3 b hb)
      obtain ⟨r,w',W',p1,p2,p3⟩:=WX (P:=P) (ty:=ty) r1 hs hi hz hzs hsz hdx (k:=0) (t:=t) (t2:=t2) (W:=W2.xC (fun b=>W2.own b=some (.det 1)) (some (.det 0))) d1 f1 (List.nodup_append.2 ⟨d2,f2,fun x hx y hy e=>by
       subst e
       have:=(d3 x hx).symm.trans (f3 x hy)
       cases this⟩) hown (zi c3.1) (qH c3.2)
      obtain ⟨W3,q1⟩:=tY p2 (d:=d) hd p3 (.inr ⟨0,rfl⟩)
      exact ⟨r,w',W3,p1,by rw [←e];exact q1⟩
     ·cases e
    | _=>simp at e
   | _=>simp at e
  | _=>simp at e
 | _=>simp at e
theorem PZ (h:Rel B st a w W) {ks:List (Option Nat)} {d:Nat} (hd:d<B.nt) {sT xT ty e:TypeId} {inf:TypeInfo} {z:Value} {sz:Nat} (hs:P.underlying sT=some (.slice e)) (hi:P.info? e=some inf) (hz:inf.zero=some z) (hzs:z.cells.size=inf.size) (hsz:inf.size=sz)
 (hdx:(∃e2,P.underlying xT=some (.slice e2))∨P.underlying xT=some .string) {t t2:Nat} {es ys:List AV} {v y:Value} {us:List Value} (hv:mg w W 0 ⟨.sh,t,.row sz es⟩ v)
 (hy:CRi w (W.F (tg t2)) (ys.flatMap AV.cells) us) (hys:∀x∈ys,x.cells.length=sz) (hyl:(Builtin.lenOf y).run P w= .ok ys.length w) (hyc:∀w':World,(∀(b:Nat) o,w.heap[b]?=some o→w'.heap[b]?=some o)→(Builtin.firstCells sz ys.length y).run P w'= .ok us.toArray w')
 (hroom:room (es.length+ys.length) inf.bytes=true):
 ∃u w' W',(Builtin.append_ #[sT,xT] ty #[v,y]).run P w= .ok u w'∧
  Rel B ((st.newObj d false false [⟨.sh,Nat.max t (fK ks t2 ys),.row sz (es++ys)⟩]).1.cZ d (.v false [.own d (st.newObj d false false [⟨.sh,Nat.max t (fK ks t2 ys),.row sz (es++ys)⟩]).2.2 0])) (a.put (some d) u) w' W':=by
 simp only [room,Bool.and_eq_true] at hroom
 obtain ⟨u,w',W1,k1,k2,k3,_,_⟩:=Yn h (ty:=ty) hs hi hz hzs hsz hdx hv (CRi.fK hy) hys hyl hyc (zi hroom.1) (qH hroom.2)
 obtain ⟨W2,q⟩:=tY k2 (d:=d) hd k3 (.inl rfl)
 exact ⟨u,w',W2,k1,q⟩
theorem Yx (h:Rel B st a w W) {ks:List (Option Nat)} {d:Nat} (hd:d<B.nt) {sT xT ty e:TypeId} {inf:TypeInfo} {z:Value} {sz:Nat} (hs:P.underlying sT=some (.slice e)) (hi:P.info? e=some inf) (hz:inf.zero=some z) (hzs:z.cells.size=inf.size) (hsz:inf.size=sz)
 (hdx:(∃e2,P.underlying xT=some (.slice e2))∨P.underlying xT=some .string) {x y:RV} {v u:Value} (hx:RR w W st.L x v) (hy:RR w W st.L y u) (e:st.BA d ks sz inf.bytes x y=some st'):
 ∃r w' W',(Builtin.append_ #[sT,xT] ty #[v,u]).run P w= .ok r w'∧Rel B st' (a.put (some d) r) w' W':=by
 unfold St.BA at e
 obtain ⟨⟨t2,ys⟩,hys,e⟩:=Option.bind_eq_some_iff.1 e
 obtain ⟨us,y1,y2,y3,y4⟩:=WM (P:=P) h hy hys
 simp only at e
 have take:∀{r:RV} {t z:Nat} {es:List AV} {st1:St},RR w W st.L r v→st.take sz r=some (⟨.sh,t,.row z es⟩,st1)→z.beq sz=true→room (es.length+ys.length) inf.bytes=true→
  ((st1.newObj d false false [⟨.sh,Nat.max t (fK ks t2 ys),.row sz (es++ys)⟩]).1.cZ d (.v false [.own d (st1.newObj d false false [⟨.sh,Nat.max t (fK ks t2 ys),.row sz (es++ys)⟩]).2.2 0]))=st'→
  ∃r w' W',(Builtin.append_ #[sT,xT] ty #[v,u]).run P w= .ok r w'∧Rel B st' (a.put (some d) r) w' W':=by
  intro r t z es st1 hr ht hz' hroom hst
  have hz':=beq_eq hz'
  subst hz'
  obtain ⟨W1,k1,k2,k3,k4,k5,k6⟩:=zM h hr ht 0
  obtain ⟨q,w',W',p1,p2⟩:=PZ k1 hd (ty:=ty) hs hi hz hzs hsz hdx k6 (y1.mono fun b hb=>⟨k4 _ _ hb,rfl⟩) y2 y3 y4 hroom
  rw [hst] at p2
  exact ⟨q,w',W',p1,p2⟩
 cases x with
 | nil=>
  simp only at e
  split at e
  ·rename_i hroom
   cases e
   have hv:v= .slice none 0 0:=hx
   subst hv
   obtain ⟨q,w',W',p1,p2⟩:=PZ h hd (ty:=ty) (t:=0) (es:=[]) hs hi hz hzs hsz hdx ⟨sz,[],none,rfl,.inl ⟨rfl,⟨_,rfl⟩,rfl⟩,(fun b hb=>by cases hb)⟩ y1 y2 y3 y4 hroom
   exact ⟨q,w',W',p1,p2⟩
  ·cases e
 | own o s c=>
  simp only at e
  obtain ⟨⟨⟨m,t,y⟩,st1⟩,ht,e⟩:=Option.bind_eq_some_iff.1 e
  cases m with
  | sh=>
   cases y with
   | row z es=>
    simp only at e
    split at e
    ·rename_i hz'
     split at e
     ·rename_i hroom
      injection e with e
      exact take hx ht hz' hroom e
     ·cases e
    ·cases e
   | _=>simp at e
  | _=>simp at e
 | inr o s c i j n=>
  simp only at e
  obtain ⟨⟨⟨m,t,y⟩,st1⟩,ht,e⟩:=Option.bind_eq_some_iff.1 e
  cases m with
  | sh=>
   cases y with
   | row z es=>
    simp only at e
    split at e
    ·rename_i hz'
     split at e
     ·rename_i hroom
      injection e with e
      exact take hx ht hz' hroom e
     ·cases e
    ·cases e
   | _=>simp at e
  | _=>simp at e
 | sub o s c lo hi=>
  cases lo with
  | succ lo=>simp at e
  | zero=>
   simp only at e
   obtain ⟨⟨⟨m,t,y⟩,st1⟩,ht,e⟩:=Option.bind_eq_some_iff.1 e
   cases m with
   | sh=>
    cases y with
    | row z es=>
     simp only at e
     split at e
     ·rename_i hz'
      split at e
      ·rename_i hroom
       injection e with e
       exact take hx ht hz' hroom e
      ·cases e
     ·cases e
    | _=>simp at e
   | _=>simp at e
 | _=>simp at e
theorem abL (h:Rel B st a w W) {ks:List (Option Nat)} {d:Nat} (hd:d<B.nt) {sT xT ty e:TypeId} {inf:TypeInfo} {z:Value} {sz:Nat} (hs:P.underlying sT=some (.slice e)) (hi:P.info? e=some inf) (hz:inf.zero=some z) (hzs:z.cells.size=inf.size) (hsz:inf.size=sz)
 (hdx:(∃e2,P.underlying xT=some (.slice e2))∨P.underlying xT=some .string) {x y:RV} {v u:Value} (hx:RR w W st.L x v) (hy:RR w W st.L y u) (e:st.append d ks sz inf.bytes x y=some st'):
 ∃r w' W',(Builtin.append_ #[sT,xT] ty #[v,u]).run P w= .ok r w'∧Rel B st' (a.put (some d) r) w' W':=by
 unfold St.append at e
 rcases Option.or_eq_some_iff.1 e with e | ⟨_,e⟩
 ·exact Yx h hd hs hi hz hzs hsz hdx hx hy e
 ·exact Yw h hd hs hi hz hzs hsz hdx hx hy e
theorem abM (h:Rel B st a w W) (hn:nt=B.nt) {c:Call} (hc:c.callee= .builtin .append) (ho:o.op= .call c) (e:aH P cfg aY nt o st=some st'):Good P B o st' a w:=by
 simp only [aH,ho,hc] at e
 obtain ⟨d,hd,hlt,e⟩:=atD e
 obtain ⟨⟨el,sz⟩,hel,e⟩:=Option.bind_eq_some_iff.1 e
 obtain ⟨sT,hsT,hel⟩:=Option.bind_eq_some_iff.1 hel
 obtain ⟨hu,inf,hi,rfl⟩:=JE hel
 obtain ⟨zs,hzs,e⟩:=Option.bind_eq_some_iff.1 e
 obtain ⟨ajg,z,hi',hz,hzr⟩:=IL (w:=w) (W:=W) (st:=st) hzs
 rw [hi] at hi';cases hi'
 split at e
 ·cases e
 ·rename_i hzl
  have hzl:zs.length=inf.size:=by
   have:zs.length.beq inf.size=true:=by simpa using hzl
   exact beq_eq this
  have adr:z.cells.size=inf.size:=by rw [←Array.length_toList,←hzr.length];exact hzl
  have hbytes:P.bytesOf el=inf.bytes:=by simp [Program.bytesOf,hi]
  have fin:∀{x y:RV},c.args.toList.map st.get=[.v false [x],.v false [y]]→(∃xT,c.argTypes[1]?=some xT∧((∃e2,P.underlying xT=some (.slice e2))∨P.underlying xT=some .string))→
   st.append d ((fC P el).getD []) inf.size (P.bytesOf el) x y=some st'→Good P B o st' a w:=by
   intro x y hargs hxT e
   obtain ⟨xT,hx1,hdx⟩:=hxT
   obtain ⟨p,q,hpq⟩:∃p q,c.args=#[p,q]:=by
    have hl:=congrArg List.length hargs
    rw [List.length_map] at hl
    have two:∀(l:List Operand),l.length=2→∃p q,l=[p,q]:=by
     intro l hl
     match l,hl with
     | [p,q],_=>exact ⟨p,q,rfl⟩
    obtain ⟨p,q,hl⟩:=two _ hl
    exact ⟨p,q,Array.ext' hl⟩
   rw [hpq] at hargs
   simp at hargs
   have hx:=h.get p
   have hy:=h.get q
   rw [hargs.1] at hx
   rw [hargs.2] at hy
   rw [hbytes] at e
   obtain ⟨r,w',W',k1,k2⟩:=abL h (hn ▸ hlt) (ty:=o.type) hu hi hz adr rfl hdx (eX hx) (eX hy) e
   refine Good.value (u:=r) (w':=w') (W':=W') (GN hc ho (s:=Builtin.append_) (fun _ _ _ _=>rfl) ?_) (by rw [hd];exact k2)
   rw [hpq,←k1]
   unfold Builtin.append_
   simp [hsT,hx1]
  split at e
  ·rename_i x y e2 hargs ht
   obtain ⟨xT,hx1,hx2⟩:=Option.bind_eq_some_iff.1 ht
   exact fin hargs ⟨xT,hx1,.inl ⟨_,hx2⟩⟩ e
  ·rename_i x y hargs ht
   obtain ⟨xT,hx1,hx2⟩:=Option.bind_eq_some_iff.1 ht
   exact fin hargs ⟨xT,hx1,.inr hx2⟩ e
  ·cases e
end
end
end Go.Sim
