/- The operations that make slices. Conditions: none. -/
import Derived.Test.YtdibfdcmbjaejaaSimM
import Derived.Great.BuildSlice
import Derived.Laws.MakeOwn
namespace Go.Sim
variable [Lim]
open Classical
set_option linter.unusedSimpArgs false
set_option linter.unusedVariables false
noncomputable section
section
variable {P:Program} {cfg:Cfg} {aT:FuncId→List Arg→Option (Res×List Out)} {B:Base} {st st':St} {a:Act} {w:World} {W:Wit} {o:Oper} {nt:Nat}
omit [Lim] in
theorem Cj {ag:Bool} {as:List AV} {e:AV} (h:AV.jM ag as=some e) (h1:∀y∈as,y.cells=[y]):e.cells=as:=by
 unfold AV.jM at h
 split at h
 ·cases h;rfl
 ·split at h
  ·rename_i y
   cases h
   exact h1 _ (by simp)
  ·cases h
theorem MN:∀(ps:List (Nat×SV)) (vs:List Value) {st st':St} {W:Wit} {ag:Bool} {ks:List (Option Nat)} {sz k t:Nat} {es:List AV},Rel B st a w W→ps.length=vs.length→
 (∀(i:Nat) p v,ps[i]?=some p→vs[i]?=some v→SR w W st.L p.2 v)→st.parts ag ks sz k ps=some (t,es,st')→
 ∃W',Rel B st' a w W'∧Ext st.L W st'.L W'∧(∀t b,W.F t b→W'.F t b)∧
  CRi w (W'.F (tg t)) (es.flatMap AV.cells) (vs.flatMap fun v=>v.cells.toList)∧(∀e∈es,e.cells.length=sz)∧(∀v∈vs,v.cells.size=sz)∧ps.map (·.1)=List.range' k vs.length∧es.length=vs.length
 | [],vs,st,st',W,ag,ks,sz,k,t,es,h,hl,hs,e=>by
  cases vs with
  | cons _ _=>cases hl
  | nil=>
   simp only [St.parts,Option.some.injEq,Prod.mk.injEq] at e
   obtain ⟨rfl,rfl,rfl⟩:=e
   exact ⟨W,h,Ext.refl _ _,fun _ _ hb=>hb,.nil,by simp,by simp,rfl,rfl⟩
 | (i,sv)::ps,vs,st,st',W,ag,ks,sz,k,t,es,h,hl,hs,e=>by
  cases vs with
  | nil=>cases hl
  | cons v vs=>
   cases sv with
   | v ag' cs=>
    simp only [St.parts] at e
    split at e
    ·rename_i hc
     simp only [Bool.and_eq_true] at hc
     have hik:=beq_eq hc.1
     have hcs:=beq_eq hc.2
     obtain ⟨⟨t1,as,st1⟩,he1,e⟩:=Option.bind_eq_some_iff.1 e
     obtain ⟨y,hy,e⟩:=Option.bind_eq_some_iff.1 e
     obtain ⟨⟨t2,es2,st2⟩,he2,e⟩:=Option.map_eq_some_iff.1 e
     cases e
     obtain ⟨ws,hrs,hcells,_⟩:=D8 (hs 0 (i,.v ag' cs) v rfl rfl)
     obtain ⟨W1,k1,k2,k3,k4,k5,k6⟩:=vG cs ws h hrs he1
     have hv:=hcells k6.tH
     have hyc:=Cj hy k6.cells_one
     obtain ⟨W2,l1,l2,l3,l4,l5,l6,l7,l8⟩:=MN ps vs k1 (by simpa using hl) (fun i p v hp hv=>(hs (i+1) p v (by simpa using hp) (by simpa using hv)).ext (fun t b hb=>⟨k4 _ _ hb,rfl⟩) k3 (TrK.loose k5)) he2
     refine ⟨W2,l1,k3.trans l2,fun t b hb=>l3 t b (k4 t b hb),?_,?_,?_,?_,by simp [l8]⟩
     ·simp only [List.flatMap_cons,hyc,hv]
      exact (k6.mono fun b hb=>⟨l1.fle (Nat.le_max_left _ _) (l3 _ _ hb),rfl⟩).append (l4.mono fun b hb=>⟨l1.fle (Nat.le_max_right _ _) hb,rfl⟩)
     ·intro e he
      rcases List.mem_cons.1 he with rfl | he
      ·rw [hyc,k6.length,←hrs.length];exact hcs
      ·exact l5 e he
     ·intro u hu
      rcases List.mem_cons.1 hu with rfl | hu
      ·rw [←Array.length_toList,hv,←hrs.length];exact hcs
      ·exact l6 u hu
     ·simp [l7,hik,List.range'_succ]
    ·cases e
   | _=>cases e
omit [Lim] in
theorem C9 {t el:TypeId} {sz:Nat} (hel:oL P t=some (el,sz)):P.underlying t=some (.slice el)∧∃inf,P.info? el=some inf∧inf.size=sz:=by
 unfold oL at hel
 split at hel
 ·rename_i e0 hu
  obtain ⟨inf,h1,h2⟩:=Option.map_eq_some_iff.1 hel
  cases h2
  exact ⟨hu,inf,h1,rfl⟩
 ·cases hel
theorem Jb (h:Rel B st a w W) (hn:nt=B.nt) {t:TypeId} {n:Nat} {ps:Array (Nat×Operand)} (ho:o.op= .buildSlice t n ps) (e:aF P cfg aT nt o st=some st'):Good P B o st' a w:=by
 simp only [aF,ho] at e
 obtain ⟨d,hd,hlt,e⟩:=atD e
 obtain ⟨⟨el,sz⟩,hel,e⟩:=Option.bind_eq_some_iff.1 e
 obtain ⟨ks,hks,e⟩:=Option.bind_eq_some_iff.1 e
 obtain ⟨zs,hzs,e⟩:=Option.bind_eq_some_iff.1 e
 obtain ⟨hu,inf,hi,rfl⟩:=C9 hel
 split at e
 ·rename_i hc
  simp only [Bool.and_eq_true] at hc
  obtain ⟨⟨c1,c2⟩,c3⟩:=hc
  have c1:=beq_eq c1
  have c2:=vN c2
  have c3:=ou c3
  obtain ⟨⟨tg',es,st1⟩,hp,e⟩:=Option.map_eq_some_iff.1 e
  have hg:=Jt h ps
  obtain ⟨W1,k1,k2,k3,k4,k5,k6,k7,k8⟩:=MN (ps.toList.map fun p=>(p.1,st.get p.2)) (ps.toList.map fun p=>a.eval p.2) h (by simp) (fun i p v hp hv=>by
   rw [List.getElem?_map] at hp hv
   obtain ⟨q,h1,h2⟩:=Option.map_eq_some_iff.1 hp
   obtain ⟨q',h3,h4⟩:=Option.map_eq_some_iff.1 hv
   rw [h1] at h3;cases h3
   subst h2 h4
   exact h.get _) hp
  obtain ⟨ZL,z,hi',hz,hzr⟩:=D7 (w:=w) (W:=W) (st:=st) hzs
  rw [hi] at hi';cases hi'
  have hlen:(ps.toList.map fun p=>a.eval p.2).length=n:=by simp [c1]
  have hparts:(ps.map fun (i,x)=>(i,a.eval x)).toList=((ps.toList.map fun p=>a.eval p.2).zipIdx 0).map fun x=>(x.2,x.1):=by
   have abx:ps.toList.map (·.1)=List.range' 0 ps.toList.length:=by
    have:=k7
    rw [List.map_map] at this
    simpa [Function.comp_def] using this
   rw [Array.toList_map]
   apply List.ext_getElem?
   intro i
   have hi:=congrArg (fun l:List Nat=>l[i]?) abx
   simp only [List.getElem?_map,List.getElem?_zipIdx] at hi ⊢
   cases hp:ps.toList[i]? with
   | none=>simp
   | some q=>
    have hlt:i<ps.toList.length:=by
     rcases Nat.lt_or_ge i ps.toList.length with h' | h'
     ·exact h'
     ·rw [List.getElem?_eq_none h'] at hp;cases hp
    rw [hp,List.getElem?_range' hlt] at hi
    simp at hi ⊢
    omega
  have hul:=k4.length
  have hes:es.length=n:=k8.trans hlen
  rw [flat_length k5,hes] at hul
  obtain ⟨hp1,hp2⟩:=CY k1 (sz:=inf.size) (t:=dQ ks tg' es) (cap:=n) (rest:=[]) 0 el k5 (CRi.dQ k4) (by omega) (by rw [List.append_nil,←hul];exact Nat.le_refl _)
  rw [hes] at hp2
  subst e
  obtain ⟨W2,l1⟩:=tY hp1 (d:=d) (hn ▸ hlt) hp2 (.inl rfl)
  refine Good.value (u:= .slice (some ⟨w.heap.size,0,none⟩) n n) (W':=W2) ?_ (by rw [hd];exact l1)
  have hsmall:¬n*inf.size>2 ^ 24:=by
   have:(2:Nat) ^ 24=16777216:=by decide
   omega
  by_cases hn0:n=0
  ·subst hn0
   have hps:ps=#[]:=Array.eq_empty_of_size_eq_zero c1.symm
   subst hps
   simp [execOp,ho,Instr.buildSlice,bI hu,oO hi,Instr.fill,newRow]
   rw [Array.eq_empty_of_size_eq_zero (xs:=Array.map (fun x=>default) (Array.range 0)) (by simp)]
  ·have hpos:¬n*inf.size=0:=by
    have:=Nat.mul_pos (Nat.pos_of_ne_zero hn0) c2
    omega
   have hf:=Great.fill_whole c2 (ps.toList.map fun p=>a.eval p.2) ((Array.range (n*inf.size)).map (z.cells[·% z.cells.size]!)) k6 (by simp [←c1])
   have hr:=run_buildSlice (P:=P) w t el n (ps.map fun (i,x)=>(i,a.eval x)) _ inf z hu hi hz hsmall hpos (by rw [hparts];exact hf)
   simp only [execOp,ho,Sem.run_bind,hr,Result.andThen_ok,Sem.run_pure,World.alloc,List.append_nil]
 ·cases e
omit [Lim] in
theorem Rt (z:Value) (n sz:Nat) (hs:0<sz) (hz:z.cells.size=sz):((Array.range (n*sz)).map (z.cells[·% sz]!)).toList=((List.replicate n z).flatMap fun v=>v.cells.toList):=by
 apply List.ext_getElem?
 intro k
 rw [Great.flat_get hs (List.replicate n z) (fun v hv=>by rw [List.eq_of_mem_replicate hv];exact hz) k]
 by_cases hk:k<n*sz
 ·have h1:k / sz<n:=(Nat.div_lt_iff_lt_mul hs).2 hk
  have h2:k % sz<sz:=Nat.mod_lt _ hs
  have h3:k % sz<z.cells.size:=by omega
  simp [hk,List.getElem?_replicate,h1,h3]
 ·have h1:n≤k / sz:=(Nat.le_div_iff_mul_le hs).2 (by omega)
  rw [List.getElem?_eq_none (by simp;omega),List.getElem?_eq_none (by simpa using h1)]
  rfl
theorem CRo.append {Fp:Nat→Prop} {as vs bs as' vs' bs'} (h:CRo w Fp as vs bs) (h':CRo w Fp as' vs' bs'):CRo w Fp (as++as') (vs++vs') (bs++bs'):=by
 induction h with
 | nil=>exact h'
 | im h1 h2 _ ih=>exact .im h1 h2 ih
 | row h1 _ ih=>rw [List.append_assoc];exact .row h1 ih
theorem GX {w:World} {W:Wit} {st:St} {Fp:Nat→Prop}:∀(zs:List RV) (vs:List Value) {ks:List (Option Nat)} {t:Nat} {as:List AV} {st':St},zs.all RV.nul=true→RRs w W st.L zs vs→st.iy ks zs=some (t,as,st')→CRo w Fp as vs []
 | [],_,ks,t,as,st',_,hr,e=>by
  cases hr
  simp only [St.iy,Option.some.injEq,Prod.mk.injEq] at e
  obtain ⟨-,rfl,-⟩:=e
  exact .nil
 | r::zs,_,ks,t,as,st',hz,hr,e=>by
  rw [List.all_cons,Bool.and_eq_true] at hz
  cases hr with
  | @cons _ _ v vs h1 h2=>
   simp only [St.iy] at e
   obtain ⟨⟨t1,y1,st1⟩,e1,e⟩:=Option.bind_eq_some_iff.1 e
   obtain ⟨⟨t2,ys2,st2⟩,e2,e⟩:=Option.map_eq_some_iff.1 e
   cases e
   have hst:st1=st∧CRo w Fp [y1] [v] []:=by
    unfold St.fix at e1
    cases r with
    | nil=>
     simp only [St.view,Option.map_some,Option.some.injEq,Prod.mk.injEq,St.freeze] at e1
     obtain ⟨-,rfl,rfl⟩:=e1
     have hv:v= .slice none 0 0:=h1
     exact ⟨rfl,.row (ob:=none) (.inl ⟨rfl,⟨_,hv⟩,rfl⟩) .nil⟩
    | im t0 y=>
     cases y with
     | sc u=>
      simp only [St.view,Option.map_some,Option.some.injEq,Prod.mk.injEq,St.freeze] at e1
      obtain ⟨-,rfl,rfl⟩:=e1
      refine ⟨rfl,.im (fun _ _ e=>by cases e) ?_ .nil⟩
      cases h1 with
      | sc hp _=>exact .sc hp .nil
     | _=>cases hz.1
    | _=>cases hz.1
   obtain ⟨hst,hy⟩:=hst
   rw [hst] at e2
   exact hy.append (GX zs vs hz.2 h2 e2)
theorem MO (h:Rel B st a w W) {sz t cap:Nat} {es:List AV} {us:List Value} (k:Nat) (T:TypeId) (hs:∀e∈es,e.cells.length=sz) (hc:CRo w (W.F (tg t)) (es.flatMap AV.cells) us [])
 (hl:es.length≤cap) (hr:cap*sz≤us.length):
 mg {w with heap:=w.heap.push (.cells us.toArray T)} (W.give w.heap.size (.det k)) k ⟨.dp 0,t,.row sz es⟩ (.slice (some ⟨w.heap.size,0,none⟩) es.length cap):=by
 refine ⟨sz,es,us,[w.heap.size],rfl,.inr ⟨w.heap.size,0,cap,us.toArray,T,(0,0),[],[],rfl,rfl,DY,fun i _=>by omega,hs,by simp,?_,hl,by simpa using hr⟩,by simp,fun b hb=>?_⟩
 ·exact hc.mono (fun b hb=>⟨hb,yz (h.flt b (h.f2 hb))⟩) fun b hb=>by cases hb
 ·rw [List.mem_singleton.1 hb];exact EM _ _ _
theorem KE (h:Rel B st a w W) (hn:nt=B.nt) {t:TypeId} {n c:Operand} (ho:o.op= .makeSlice t n c) (e:aF P cfg aT nt o st=some st'):Good P B o st' a w:=by
 simp only [aF,ho] at e
 obtain ⟨d,hd,hlt,e⟩:=atD e
 obtain ⟨⟨el,sz⟩,hel,e⟩:=Option.bind_eq_some_iff.1 e
 obtain ⟨zs,hzs,e⟩:=Option.bind_eq_some_iff.1 e
 obtain ⟨hu,inf,hi,rfl⟩:=C9 hel
 obtain ⟨ZL,z,hi',hz,hzr⟩:=D7 (w:=w) (W:=W) (st:=st) hzs
 rw [hi] at hi';cases hi'
 split at e
 ·cases e
 ·rename_i hzl
  have hzl:zs.length=inf.size:=by
   have:zs.length.beq inf.size=true:=by simpa using hzl
   exact beq_eq this
  have TK:z.cells.size=inf.size:=by rw [←Array.length_toList,←hzr.length];exact hzl
  obtain ⟨ks,hks,e⟩:=Option.bind_eq_some_iff.1 e
  obtain ⟨⟨k1,n1⟩,hn1,e⟩:=Option.bind_eq_some_iff.1 e
  obtain ⟨⟨k2,n2⟩,hn2,e⟩:=Option.bind_eq_some_iff.1 e
  obtain ⟨m,hm,e⟩:=Option.bind_eq_some_iff.1 e
  obtain ⟨hm0,hm1⟩:=qG hm
  have hv1:=DZ hn1 (h.get n)
  have hv2:=DZ hn2 (h.get c)
  split at e
  ·rename_i hc
   obtain ⟨hc1,hroom,hc3⟩:=hc
   replace hc1:n1=n2:=hc1
   replace hc3:n1<9223372036854775808:=hc3
   replace hm0:0≤n1:=hm0
   replace hm1:n1.toNat=m:=hm1
   have hbytes:P.bytesOf el=inf.bytes:=by simp [Program.bytesOf,hi]
   have hroom':room m inf.bytes=true:=by rw [←hbytes];exact hroom
   simp only [room,Bool.and_eq_true] at hroom'
   have hb0:=vN hroom'.1
   have hb1:=ou hroom'.2
   obtain ⟨⟨tg',as,st1⟩,hfx,e2⟩:=Option.bind_eq_some_iff.1 e
   obtain ⟨y,hy,e3⟩:=Option.map_eq_some_iff.1 e2
   obtain ⟨W1,l1,l2,l3,l4,l5,l6⟩:=vG zs z.cells.toList h hzr hfx
   have hyc:=Cj hy l6.cells_one
   have hyl:y.cells.length=inf.size:=by rw [hyc,l6.length,Array.length_toList];exact TK
   have hs:∀e∈List.replicate m y,e.cells.length=inf.size:=fun e he=>by rw [List.eq_of_mem_replicate he];exact hyl
   have TL:CRi w (W1.F (tg tg')) ((List.replicate m y).flatMap AV.cells) ((List.replicate m z).flatMap fun v=>v.cells.toList):=by
    have:∀m,CRi w (W1.F (tg tg')) ((List.replicate m y).flatMap AV.cells) ((List.replicate m z).flatMap fun v=>v.cells.toList):=by
     intro m
     induction m with
     | zero=>exact .nil
     | succ m ih=>
      simp only [List.replicate_succ,List.flatMap_cons,hyc]
      exact l6.append ih
    exact this m
   have htag:CRi w (W1.F (tg (dQ ks tg' [y]))) ((List.replicate m y).flatMap AV.cells) ((List.replicate m z).flatMap fun v=>v.cells.toList):=by
    unfold dQ
    cases ks.any (·.isSome) with
    | true=>exact TL
    | false=>
    cases hfl:[y].all AV.flat with
    | false=>exact TL
    | true=>
     refine CRi.flat ?_ TL
     intro x hx
     obtain ⟨y',hy',hx⟩:=List.mem_flatMap.1 hx
     rw [List.eq_of_mem_replicate hy'] at hx
     simp only [List.all_cons,List.all_nil,Bool.and_true,AV.flat] at hfl
     exact List.all_eq_true.1 hfl x hx
   have hul:=htag.length
   rw [flat_length hs,List.length_replicate] at hul
   obtain ⟨hp1,hp2⟩:=CY l1 (sz:=inf.size) (t:=dQ ks tg' [y]) (cap:=m) (rest:=[]) 0 el hs htag (by simp) (by rw [List.append_nil,←hul];exact Nat.le_refl _)
   rw [List.length_replicate] at hp2
   have uH:mg {w with heap:=w.heap.push (.cells (((List.replicate m z).flatMap fun v:Value=>v.cells.toList)++[]).toArray el)} (W1.give w.heap.size (.det 0)) 0 ⟨bif cfg.deep nt d&&zs.all RV.nul then .dp 0 else .sh,dQ ks tg' [y],.row inf.size (List.replicate m y)⟩ (.slice (some ⟨w.heap.size,0,none⟩) m m)∧
    ((bif cfg.deep nt d&&zs.all RV.nul then OM.dp 0 else .sh)= .sh∨∃n,(bif cfg.deep nt d&&zs.all RV.nul then OM.dp 0 else .sh)= .dp n):=by
    cases hdp:(cfg.deep nt d&&zs.all RV.nul) with
    | false=>exact ⟨hp2,.inl rfl⟩
    | true=>
     rw [Bool.and_eq_true] at hdp
     have hro:∀m,CRo w (W1.F (tg (dQ ks tg' [y]))) ((List.replicate m y).flatMap AV.cells) ((List.replicate m z).flatMap fun v:Value=>v.cells.toList) []:=by
      intro m
      induction m with
      | zero=>exact .nil
      | succ m ih=>
       simp only [List.replicate_succ,List.flatMap_cons,hyc]
       exact (GX zs _ hdp.2 hzr hfx).append ih
     have:=MO l1 (cap:=m) 0 el hs (hro m) (by simp) (by rw [←hul];exact Nat.le_refl _)
     rw [List.length_replicate] at this
     rw [List.append_nil]
     exact ⟨this,.inr ⟨0,rfl⟩⟩
   obtain ⟨W2,q1⟩:=tY hp1 (d:=d) (hn ▸ hlt) uH.1 uH.2
   subst e3
   refine Good.value (u:= .slice (some ⟨w.heap.size,0,none⟩) m m) (W':=W2) ?_ (by rw [hd];exact q1)
   have hr:=run_make (P:=P) w t el inf z hu hi hz k1 k2 n1 n1 hm0 (Int.le_refl _) (by
    have h1:((m*inf.bytes:Nat):Int)≤140737488355328:=by omega
    rw [Int.natCast_mul] at h1
    rw [←hm1,Int.toNat_of_nonneg hm0] at h1
    rw [Int.mul_comm];omega) (by omega)
   rw [hm1] at hr
   have harr:madeCells z.cells (m*inf.size)=((List.replicate m z).flatMap fun v=>v.cells.toList).toArray:=by
    apply Array.ext'
    by_cases hs0:inf.size=0
    ·have h1:(madeCells z.cells (m*inf.size)).toList=[]:=List.eq_nil_of_length_eq_zero (by rw [Array.length_toList,size_madeCells,hs0];rfl)
     have h2:((List.replicate m z).flatMap fun v=>v.cells.toList)=[]:=List.eq_nil_of_length_eq_zero (by rw [←hul,hs0];rfl)
     rw [h1,h2]
    ·have:=Rt z m inf.size (Nat.pos_of_ne_zero hs0) TK
     unfold madeCells
     rw [TK]
     exact this
   have aby:a.eval n= .int k1 n1:=hv1
   have abz:a.eval c= .int k2 n1:=by rw [hc1];exact hv2
   rw [harr] at hr
   simp only [execOp,ho,aby,abz,Sem.run_bind,hr,Result.andThen_ok,Sem.run_pure,World.alloc,List.append_nil]
  ·cases e
theorem GY (h:Rel B st a w W) {ks:List (Option Nat)} {d:Nat} (hd:d<B.nt) {sT xT ty e:TypeId} {inf:TypeInfo} {z:Value} {sz:Nat} (hs:P.underlying sT=some (.slice e)) (hi:P.info? e=some inf) (hz:inf.zero=some z) (hzs:z.cells.size=inf.size) (hsz:inf.size=sz)
 (hdx:(∃e2,P.underlying xT=some (.slice e2))∨P.underlying xT=some .string) {t t2:Nat} {es ys:List AV} {v y:Value} {us:List Value} (hv:mg w W 0 ⟨.sh,t,.row sz es⟩ v)
 (hy:CRi w (W.F (tg t2)) (ys.flatMap AV.cells) us) (hys:∀x∈ys,x.cells.length=sz) (hyl:(Builtin.lenOf y).run P w= .ok ys.length w) (hyc:∀w':World,(∀(b:Nat) o,w.heap[b]?=some o→w'.heap[b]?=some o)→(Builtin.firstCells sz ys.length y).run P w'= .ok us.toArray w')
 (hroom:room (es.length+ys.length) inf.bytes=true):
 ∃u w' W',(Builtin.append_ #[sT,xT] ty #[v,y]).run P w= .ok u w'∧
  Rel B ((st.newObj d false false [⟨.sh,Nat.max t (dQ ks t2 ys),.row sz (es++ys)⟩]).1.bH d (.v false [.own d (st.newObj d false false [⟨.sh,Nat.max t (dQ ks t2 ys),.row sz (es++ys)⟩]).2.2 0])) (a.put (some d) u) w' W':=by
 simp only [room,Bool.and_eq_true] at hroom
 obtain ⟨u,w',W1,k1,k2,k3,_,_⟩:=Oj h (ty:=ty) hs hi hz hzs hsz hdx hv (CRi.dQ hy) hys hyl hyc (vN hroom.1) (ou hroom.2)
 obtain ⟨W2,q⟩:=tY k2 (d:=d) hd k3 (.inl rfl)
 exact ⟨u,w',W2,k1,q⟩
theorem Ru (h:Rel B st a w W) {ks:List (Option Nat)} {d:Nat} (hd:d<B.nt) {sT xT ty e:TypeId} {inf:TypeInfo} {z:Value} {sz:Nat} (hs:P.underlying sT=some (.slice e)) (hi:P.info? e=some inf) (hz:inf.zero=some z) (hzs:z.cells.size=inf.size) (hsz:inf.size=sz)
 (hdx:(∃e2,P.underlying xT=some (.slice e2))∨P.underlying xT=some .string) {x y:RV} {v u:Value} (hx:RR w W st.L x v) (hy:RR w W st.L y u) (e:st.append d ks sz inf.bytes x y=some st'):
 ∃r w' W',(Builtin.append_ #[sT,xT] ty #[v,u]).run P w= .ok r w'∧Rel B st' (a.put (some d) r) w' W':=by
 unfold St.append at e
 obtain ⟨⟨t2,ys⟩,hys,e⟩:=Option.bind_eq_some_iff.1 e
 obtain ⟨us,y1,y2,y3,y4⟩:=MF (P:=P) h hy hys
 simp only at e
 have take:∀{r:RV} {t z:Nat} {es:List AV} {st1:St},RR w W st.L r v→st.take sz r=some (⟨.sh,t,.row z es⟩,st1)→z.beq sz=true→room (es.length+ys.length) inf.bytes=true→
  ((st1.newObj d false false [⟨.sh,Nat.max t (dQ ks t2 ys),.row sz (es++ys)⟩]).1.bH d (.v false [.own d (st1.newObj d false false [⟨.sh,Nat.max t (dQ ks t2 ys),.row sz (es++ys)⟩]).2.2 0]))=st'→
  ∃r w' W',(Builtin.append_ #[sT,xT] ty #[v,u]).run P w= .ok r w'∧Rel B st' (a.put (some d) r) w' W':=by
  intro r t z es st1 hr ht hz' hroom hst
  have hz':=beq_eq hz'
  subst hz'
  obtain ⟨W1,k1,k2,k3,k4,k5,k6⟩:=DX h hr ht 0
  obtain ⟨q,w',W',p1,p2⟩:=GY k1 hd (ty:=ty) hs hi hz hzs hsz hdx k6 (y1.mono fun b hb=>⟨k4 _ _ hb,rfl⟩) y2 y3 y4 hroom
  rw [hst] at p2
  exact ⟨q,w',W',p1,p2⟩
 cases x with
 | nil=>
  simp only at e
  split at e
  ·rename_i hroom
   cases e
   have hv:v= .slice none 0 0:=hx
   subst hv
   obtain ⟨q,w',W',p1,p2⟩:=GY h hd (ty:=ty) (t:=0) (es:=[]) hs hi hz hzs hsz hdx ⟨sz,[],none,rfl,.inl ⟨rfl,⟨_,rfl⟩,rfl⟩,(fun b hb=>by cases hb)⟩ y1 y2 y3 y4 hroom
   exact ⟨q,w',W',p1,p2⟩
  ·cases e
 | own o s c=>
  simp only at e
  obtain ⟨⟨⟨m,t,y⟩,st1⟩,ht,e⟩:=Option.bind_eq_some_iff.1 e
  cases m with
  | sh=>
   cases y with
   | row z es=>
    simp only at e
    split at e
    ·rename_i hz'
     split at e
     ·rename_i hroom
      injection e with e
      exact take hx ht hz' hroom e
     ·cases e
    ·cases e
   | _=>simp at e
  | _=>simp at e
 | inr o s c i j n=>
  simp only at e
  obtain ⟨⟨⟨m,t,y⟩,st1⟩,ht,e⟩:=Option.bind_eq_some_iff.1 e
  cases m with
  | sh=>
   cases y with
   | row z es=>
    simp only at e
    split at e
    ·rename_i hz'
     split at e
     ·rename_i hroom
      injection e with e
      exact take hx ht hz' hroom e
     ·cases e
    ·cases e
   | _=>simp at e
  | _=>simp at e
 | sub o s c lo hi=>
  cases lo with
  | succ lo=>simp at e
  | zero=>
   simp only at e
   obtain ⟨⟨⟨m,t,y⟩,st1⟩,ht,e⟩:=Option.bind_eq_some_iff.1 e
   cases m with
   | sh=>
    cases y with
    | row z es=>
     simp only at e
     split at e
     ·rename_i hz'
      split at e
      ·rename_i hroom
       injection e with e
       exact take hx ht hz' hroom e
      ·cases e
     ·cases e
    | _=>simp at e
   | _=>simp at e
 | _=>simp at e
theorem Rw (h:Rel B st a w W) (hn:nt=B.nt) {c:Call} (hc:c.callee= .builtin .append) (ho:o.op= .call c) (e:aF P cfg aT nt o st=some st'):Good P B o st' a w:=by
 simp only [aF,ho,hc] at e
 obtain ⟨d,hd,hlt,e⟩:=atD e
 obtain ⟨⟨el,sz⟩,hel,e⟩:=Option.bind_eq_some_iff.1 e
 obtain ⟨sT,hsT,hel⟩:=Option.bind_eq_some_iff.1 hel
 obtain ⟨hu,inf,hi,rfl⟩:=C9 hel
 obtain ⟨zs,hzs,e⟩:=Option.bind_eq_some_iff.1 e
 obtain ⟨ZL,z,hi',hz,hzr⟩:=D7 (w:=w) (W:=W) (st:=st) hzs
 rw [hi] at hi';cases hi'
 split at e
 ·cases e
 ·rename_i hzl
  have hzl:zs.length=inf.size:=by
   have:zs.length.beq inf.size=true:=by simpa using hzl
   exact beq_eq this
  have TK:z.cells.size=inf.size:=by rw [←Array.length_toList,←hzr.length];exact hzl
  have hbytes:P.bytesOf el=inf.bytes:=by simp [Program.bytesOf,hi]
  have fin:∀{x y:RV},c.args.toList.map st.get=[.v false [x],.v false [y]]→(∃xT,c.argTypes[1]?=some xT∧((∃e2,P.underlying xT=some (.slice e2))∨P.underlying xT=some .string))→
   st.append d ((dK P el).getD []) inf.size (P.bytesOf el) x y=some st'→Good P B o st' a w:=by
   intro x y hargs hxT e
   obtain ⟨xT,hx1,hdx⟩:=hxT
   obtain ⟨p,q,hpq⟩:∃p q,c.args=#[p,q]:=by
    have hl:=congrArg List.length hargs
    rw [List.length_map] at hl
    have two:∀(l:List Operand),l.length=2→∃p q,l=[p,q]:=by
     intro l hl
     match l,hl with
     | [p,q],_=>exact ⟨p,q,rfl⟩
    obtain ⟨p,q,hl⟩:=two _ hl
    exact ⟨p,q,Array.ext' hl⟩
   rw [hpq] at hargs
   simp at hargs
   have hx:=h.get p
   have hy:=h.get q
   rw [hargs.1] at hx
   rw [hargs.2] at hy
   rw [hbytes] at e
   obtain ⟨r,w',W',k1,k2⟩:=Ru h (hn ▸ hlt) (ty:=o.type) hu hi hz TK rfl hdx (dV hx) (dV hy) e
   refine Good.value (u:=r) (w':=w') (W':=W') (Ap hc ho (s:=Builtin.append_) (fun _ _ _ _=>rfl) ?_) (by rw [hd];exact k2)
   rw [hpq,←k1]
   unfold Builtin.append_
   simp [hsT,hx1]
  split at e
  ·rename_i x y e2 hargs ht
   obtain ⟨xT,hx1,hx2⟩:=Option.bind_eq_some_iff.1 ht
   exact fin hargs ⟨xT,hx1,.inl ⟨_,hx2⟩⟩ e
  ·rename_i x y hargs ht
   obtain ⟨xT,hx1,hx2⟩:=Option.bind_eq_some_iff.1 ht
   exact fin hargs ⟨xT,hx1,.inr hx2⟩ e
  ·cases e
end
end
end Go.Sim
