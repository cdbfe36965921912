/- Stores: a variable's cells, an element of a row. Conditions: none. -/
import Derived.Test.YtngbehdgjocndaaGreatSimG
namespace Go.Sim
variable [Lim]
open Classical
set_option linter.unusedSimpArgs false
set_option linter.unusedVariables false
noncomputable section
omit [Lim] in
theorem gV {α:Type} {cs xs:List α} {off:Nat} (h:off+xs.length≤cs.length):(splice cs off xs).length=cs.length:=by
 simp [splice];omega
omit [Lim] in
theorem mD {α:Type} {cs xs:List α} {off:Nat} (h:off+xs.length≤cs.length) (c:Nat):
 (splice cs off xs)[c]?=if c<off then cs[c]? else if c<off+xs.length then xs[c - off]? else cs[c]?:=by
 unfold splice
 by_cases h1:c<off
 ·rw [if_pos h1,List.getElem?_append_left (by simp;omega),List.getElem?_take,if_pos h1]
 ·rw [if_neg h1]
  have e0:(cs.take off).length=off:=by simp;omega
  rw [List.getElem?_append_right (by omega),e0]
  by_cases h2:c<off+xs.length
  ·rw [if_pos h2,List.getElem?_append_left (by omega)]
  ·rw [if_neg h2,List.getElem?_append_right (by omega),List.getElem?_drop]
   congr 1;omega
omit [Lim] in
theorem PN {α:Type} (cs:List α) (off:Nat):splice cs off []=cs:=by
 simp [splice]
section
variable {P:Program} {B:Base} {st:St} {a:Act} {w:World} {W:Wit}
omit [Lim] in
theorem SH {b off:Nat} {v:Value} {arr:Array Value} {T:TypeId} {fr:Nat×Nat} (h:w.heap[b]?=some (.cells arr T fr)):
 (w.setCell ⟨b,off,none⟩ v).heap[b]?=some (.cells (arr.setIfInBounds off v) T fr):=by
 simp [World.setCell,Array.getElem?_modify,h]
omit [Lim] in
theorem SI {b off b':Nat} {v:Value} (h:b'≠b):(w.setCell ⟨b,off,none⟩ v).heap[b']?=w.heap[b']?:=by
 simp [World.setCell,Array.getElem?_modify]
 intro e;exact absurd e.symm h
omit [Lim] in
theorem UM {x:Addr} {v:Value}:(w.setCell x v).heap.size=w.heap.size:=by simp [World.setCell]
omit [Lim] in
theorem mF:∀(vs:List Value) (i:Nat) {w:World} {b off:Nat} {arr:Array Value} {T:TypeId} {fr:Nat×Nat},w.heap[b]?=some (.cells arr T fr)→(∀j<arr.size,¬(fr.1≤j∧j<fr.2))→
 (∀v∈vs,v.oneCell'=true)→off+i+vs.length≤arr.size→
 ∃w' jR,(storeCells ⟨b,off,none⟩ vs i).run P w= .ok () w'∧w'.heap[b]?=some (.cells jR T fr)∧jR.toList=splice arr.toList (off+i) vs∧(∀b',b'≠b→w'.heap[b']?=w.heap[b']?)∧w'.heap.size=w.heap.size∧(w'.os=w.os∧w'.output=w.output)
 | [],i,w,b,off,arr,T,fr,hb,hf,ho,hl=>⟨w,arr,by simp [storeCells],hb,by rw [PN],fun _ _=>rfl,rfl,rfl,rfl⟩
 | v::vs,i,w,b,off,arr,T,fr,hb,hf,ho,hl=>by
  simp only [List.length_cons] at hl
  have hc:w.cell? ((⟨b,off,none⟩:Addr).add i)=some (arr[off+i]'(by omega)):=by
   rw [kK,KJ hb];simp
  have hfz:w.frozen? ((⟨b,off,none⟩:Addr).add i)=false:=by
   rw [kK]
   simp only [World.frozen?,hb]
   have:=hf (off+i) (by omega)
   simp only [Bool.and_eq_false_iff,decide_eq_false_iff_not]
   by_cases h1:fr.1≤off+i
   ·exact .inr fun h2=>this ⟨h1,h2⟩
   ·exact .inl h1
  have hs:(store ((⟨b,off,none⟩:Addr).add i) v).run P w= .ok () (w.setCell ⟨b,off+i,none⟩ v):=by
   rw [run_store P w _ v _ (ho v (by simp)),hc]
   simp only [hfz,Bool.false_eq_true,if_false]
   rw [kK]
  obtain ⟨w',jR,h1,h2,h3,h4,h5,hio⟩:=mF vs (i+1) (b:=b) (off:=off) (SH (off:=off+i) (v:=v) hb) (by simpa using hf) (fun u hu=>ho u (by simp [hu])) (by simp;omega)
  refine ⟨w',jR,?_,h2,?_,fun b' hb'=>(h4 b' hb').trans (SI hb'),h5.trans UM,hio.1,hio.2⟩
  ·unfold storeCells
   simp only [Sem.run_bind,hs,Result.andThen_ok]
   exact h1
  ·rw [h3]
   apply List.ext_getElem?
   intro c
   rw [mD (by simp;omega),mD (by simp;omega)]
   simp only [Array.toList_setIfInBounds,List.length_cons]
   by_cases c1:c<off+(i+1)
   ·rw [if_pos c1]
    by_cases c2:c<off+i
    ·rw [if_pos c2,List.getElem?_set_ne (by omega)]
    ·rw [if_neg c2,if_pos (by omega)]
     have e:c=off+i:=by omega
     subst e
     rw [List.getElem?_set_self (by simp;omega)]
     simp
   ·rw [if_neg c1,if_neg (show ¬c<off+i by omega)]
    by_cases c3:c<off+(i+1)+vs.length
    ·rw [if_pos c3,if_pos (show c<off+i+(vs.length+1) by omega)]
     rw [show c - (off+i)=(c - (off+(i+1)))+1 by omega,List.getElem?_cons_succ]
    ·rw [if_neg c3,if_neg (show ¬c<off+i+(vs.length+1) by omega),List.getElem?_set_ne (by omega)]
theorem CRi.one {Fp:Nat→Prop} {x:AV} {v:Value} (h:CRi w Fp [x] [v]):v.oneCell'=true:=by
 cases h with
 | sc hp _=>cases v<;>first | rfl | (simp [plain] at hp)
 | gy _=>rfl
 | row _ _ _ _ _ _ _=>rfl
 | cp _ _ _ _ _=>rfl
 | clo _ _=>rfl
omit [Lim] in
theorem CRs.one {Fp:Nat→Prop} {x:AV} {v:Value} (h:CRs w Fp [x] [v]):v.oneCell'=true:=by
 cases h with
 | sc hp _=>cases v<;>first | rfl | (simp [plain] at hp)
 | gy _=>rfl
 | row _ _ _ _ _ _ _=>rfl
 | cp _ _ _ _ _=>rfl
 | clo _ _=>rfl
theorem mg.one {k:Nat} {x:CV} {v:Value} (h:mg w W k x v):v.oneCell'=true:=by
 obtain ⟨m,t,y⟩:=x
 cases m with
 | imm=>exact CRi.one h
 | gone=>exact h.elim
 | sh=>
  obtain ⟨sz,es,ob,_,h1,_⟩:=h
  rcases h1 with ⟨_,⟨x,rfl⟩,_⟩ | ⟨b,off,cap,arr,T,fr,us,rest,rfl,_⟩<;>rfl
 | dp n=>
  obtain ⟨sz,es,us,bs,_,h1,_⟩:=h
  rcases h1 with ⟨_,⟨x,rfl⟩,_⟩ | ⟨b,off,cap,arr,T,fr,rest,ibs,rfl,_⟩<;>rfl
 | dd n i j=>exact h.elim
 | ws=>exact CRs.one h
 | fr=>exact CRi.one h
theorem CRi.uZ {Fp:Nat→Prop} {as:List AV} {vs:List Value} (h:CRi w Fp as vs):∀v∈vs,v.oneCell'=true:=by
 intro v hv
 obtain ⟨i,hi⟩:=List.getElem?_of_mem hv
 have hl:=h.length
 have:i<as.length:=by
  rw [hl]
  rcases Nat.lt_or_ge i vs.length with h' | h'
  ·exact h'
  ·rw [List.getElem?_eq_none h'] at hi;cases hi
 obtain ⟨u,hu,hc⟩:=h.get (List.getElem?_eq_getElem this)
 rw [hi] at hu;cases hu
 exact hc.one
theorem CRo.uZ {Fp:Nat→Prop} {as:List AV} {vs:List Value} {bs:List Nat} (h:CRo w Fp as vs bs):∀v∈vs,v.oneCell'=true:=by
 induction h with
 | nil=>simp
 | im _ h2 _ ih=>
  intro v hv
  rcases List.mem_cons.1 hv with rfl | hv
  ·exact CRi.one h2
  ·exact ih v hv
 | row h1 _ ih=>
  intro v hv
  rcases List.mem_cons.1 hv with rfl | hv
  ·rcases h1 with ⟨_,⟨x,rfl⟩,_⟩ | ⟨b,off,cap,arr,T,fr,us,rest,rfl,_⟩<;>rfl
  ·exact ih v hv
theorem kL.uZ {k:Nat} {xs:List CV} {us:List Value} (h:kL w W k xs us):∀v∈us,v.oneCell'=true:=by
 intro v hv
 obtain ⟨i,hi⟩:=List.getElem?_of_mem hv
 have:i<xs.length:=by
  rw [h.1]
  rcases Nat.lt_or_ge i us.length with h' | h'
  ·exact h'
  ·rw [List.getElem?_eq_none h'] at hi;cases hi
 exact (h.2 i _ v (List.getElem?_eq_getElem this) hi).one
theorem Yl (h:Rel B st a w W) {o:Nat} {ob:Obj} (hL:st.L o=some ob) (hm:ob.mem=true) (hfz:ob.fz=false) {k off:Nat} {xs:List CV} {us:List Value} (hd:kL w W k xs us)
 (hle:off+xs.length≤ob.cs.length) {w':World} {jR:Array Value} {T:TypeId} {fr:Nat×Nat} (hb':w'.heap[W.blk o]?=some (.cells jR T fr)) (hfr:∀i<jR.size,¬(fr.1≤i∧i<fr.2))
 (harr:jR.toList=splice (W.vals o) off us) (hne:∀b',b'≠W.blk o→w'.heap[b']?=w.heap[b']?) (hsz:w'.heap.size=w.heap.size) (hio:w'.os=w.os∧w'.output=w.output):
 ∃W',Rel B (st.setObj o {ob with ctr:=ob.ctr+1,cs:=splice ob.cs off (xs.map (CV.at (ob.ctr+1)))}) a w' W':=by
 obtain ⟨hlen,zl⟩:=hd
 have iq:=h.iJ o ob hL
 obtain ⟨arr,T0,fr0,hb0,hb1,hb2,hb3,_⟩:=iq.mem hm
 have hroot:=hb3 hfz
 obtain ⟨fpn,usn,hfp⟩:=kL.choose ⟨hlen,zl⟩
 have hvl:=iq.len
 let W':Wit:=
  {F:=W.F
   vals:=fun o'=>if o'=o then splice (W.vals o) off us else W.vals o'
   blk:=W.blk
   fp:=fun o' c=>if o'=o∧off≤c∧c<off+xs.length then fpn (c - off) else W.fp o' c
   us:=fun o' c=>if o'=o∧off≤c∧c<off+xs.length then usn (c - off) else W.us o' c
   own:=fun b=>match W.own b with
    | some (.det j)=>if k≤j∧j<k+xs.length then some (.cell o (off+(j - k))) else some (.det j)
    | x=>x}
 have hF:∀t b,W.F (tg t) b→W'.F (tg t) b∧w'.heap[b]?=w.heap[b]?:=fun t b hb=>⟨hb,hne b fun e=>by
  have:=h.qF b (h.f2 hb)
  rw [e,hroot] at this;cases this⟩
 have hown:∀b x,W.own b=some x→(∀j,x≠ .det j)→W'.own b=some x:=by
  intro b x hb hx
  show (match W.own b with | some (.det j)=>_ | x=>x)=_
  rw [hb]
  cases x with
  | det j=>exact absurd rfl (hx j)
  | _=>rfl
 have hown2:∀b c,c<xs.length→W.own b=some (.det (k+c))→W'.own b=some (.cell o (off+c)):=by
  intro b c hc hb
  show (match W.own b with | some (.det j)=>_ | x=>x)=_
  rw [hb]
  simp only
  rw [if_pos (by omega)]
  congr 3
  omega
 have hown3:∀b x,W'.own b=some x→∃y,W.own b=some y:=by
  intro b x hb
  cases hb':W.own b with
  | none=>
   have:W'.own b=none:=by
    show (match W.own b with | some (.det j)=>_ | x=>x)=_
    rw [hb']
   rw [this] at hb;cases hb
  | some y=>exact ⟨y,rfl⟩
 have hnone:∀b,W.own b=none→W'.own b=none:=by
  intro b hb
  show (match W.own b with | some (.det j)=>_ | x=>x)=_
  rw [hb]
 have hmem:∀b x,W.own b=some x→x≠ .root o→w'.heap[b]?=w.heap[b]?:=fun b x hb hx=>hne b fun e=>by
  rw [e,hroot] at hb;cases hb;exact hx rfl
 have hxl:(xs.map (CV.at (ob.ctr+1))).length=xs.length:=by simp
 have hul:us.length=xs.length:=hlen.symm
 let ob':Obj:={ob with ctr:=ob.ctr+1,cs:=splice ob.cs off (xs.map (CV.at (ob.ctr+1)))}
 have hcs:∀c,ob'.cs[c]?=if c<off then ob.cs[c]? else if c<off+xs.length then (xs[c - off]?).map (CV.at (ob.ctr+1)) else ob.cs[c]?:=by
  intro c
  show (splice ob.cs off (xs.map (CV.at (ob.ctr+1))))[c]?=_
  rw [mD (by rw [hxl];exact hle),hxl,List.getElem?_map]
 have hvs:∀c,(W'.vals o)[c]?=if c<off then (W.vals o)[c]? else if c<off+xs.length then us[c - off]? else (W.vals o)[c]?:=by
  intro c
  have:W'.vals o=splice (W.vals o) off us:=by
   show (if o=o then _ else _)=_
   rw [if_pos rfl]
  rw [this,mD (by rw [hul,hvl];exact hle),hul]
 have hE:Ext st.L W (st.setObj o ob').L W':=by
  intro o' obx hL'
  by_cases e:o'=o
  ·subst e
   rw [hL] at hL';cases hL'
   refine ⟨ob',by simp only [St.setObj,upd_same],Nat.le_succ _,Nat.le_refl _,fun c x' hx'=>?_,fun _=>⟨rfl,rfl⟩⟩
   rw [hcs] at hx'
   by_cases c1:c<off
   ·rw [if_pos c1] at hx'
    exact .inr ⟨x',hx',rfl,by rw [hvs,if_pos c1],fun hm=>⟨hm,fun _ es he=>⟨es,he,rfl⟩⟩,qG.same (if_neg (by omega))⟩
   ·rw [if_neg c1] at hx'
    by_cases c2:c<off+xs.length
    ·rw [if_pos c2] at hx'
     obtain ⟨x,_,rfl⟩:=Option.map_eq_some_iff.1 hx'
     left;simp only [CV.at];omega
    ·rw [if_neg c2] at hx'
     exact .inr ⟨x',hx',rfl,by rw [hvs,if_neg c1,if_neg c2],fun hm=>⟨hm,fun _ es he=>⟨es,he,rfl⟩⟩,qG.same (if_neg (by omega))⟩
  ·refine ⟨obx,by simp only [St.setObj,upd_ne _ _ e];exact hL',Nat.le_refl _,Nat.le_refl _,fun c x hx=> .inr ⟨x,hx,rfl,?_,fun hm=>⟨hm,fun _ es he=>⟨es,he,rfl⟩⟩,qG.same (if_neg fun hh=>e hh.1)⟩,fun _=>⟨rfl,rfl⟩⟩
   show (if o'=o then _ else W.vals o')[c]?=_
   rw [if_neg e]
 have hD:TrK w w' W W':=TrK.of fun x b hb=>⟨hown b _ hb (fun j e=>by cases e),hmem b _ hb fun e=>by cases e⟩
 refine ⟨W',?_⟩
 have:=h.step (hio:=hio) (L':=(st.setObj o ob').L) (w':=w') (W':=W') (fun _ _ hb=>hb) h.f01 h.f12 (fun _ _ hb=> .inl hb) (fun b hb=>hnone b (h.qF b hb)) (fun b hb=>by rw [hsz];exact h.flt b hb) ?_ (fun b hb=>(hF 2 b hb).2) hE (Par.set hL rfl rfl (fun _=>rfl) fun o' ho=>by
  rcases ho with ho | ho
  ·show (if o'=o then _ else W.vals o')=_
   rw [if_neg ho]
  ·rw [hm] at ho;cases ho) ?_ ?_ (by omega) hD (fun b hb=> .inl hb) (fun b x hb=>by
   by_cases e:b=W.blk o
   ·subst e;exact .inr ⟨jR,T,fr,hb',hfr⟩
   ·exact .inl ⟨hown3 b x hb,.inl (hne b e)⟩)
 ·exact this
 ·intro b x hb
  obtain ⟨y,hy⟩:=hown3 b x hb
  rw [hsz];exact h.olt b y hy
 ·intro o' obx hL'
  by_cases e:o'=o
  ·subst e
   simp only [St.setObj,upd_same] at hL'
   cases hL'
   refine {len:=?_,cells:=?_,mem:=?_,fz:=fun hf=>?_,ctr:=?_}
   ·have e1:W'.vals o'=splice (W.vals o') off us:=by
     show (if o'=o' then _ else _)=_
     rw [if_pos rfl]
    rw [e1,gV (by rw [hul,hvl];exact hle)]
    show _=(splice ob.cs off (xs.map (CV.at (ob.ctr+1)))).length
    rw [gV (by rw [hxl];exact hle),hvl]
   ·intro c x' v hx' hv
    rw [hcs] at hx'
    rw [hvs] at hv
    have old:¬(off≤c∧c<off+xs.length)→ob.cs[c]?=some x'→(W.vals o')[c]?=some v→GH w' W' o' c x' v:=by
     intro hc hx hv
     have:=iq.cells c x' v hx hv
     have e1:W'.fp o' c=W.fp o' c:=by
      show (if o'=o'∧off≤c∧c<off+xs.length then fpn (c - off) else W.fp o' c)=_
      rw [if_neg fun hh=>hc hh.2]
     obtain ⟨m,s,t,y⟩:=x'
     cases m with
     | imm=>exact CRi.mono (fun b hb=>hF _ b hb) this
     | gone=>trivial
     | ws=>exact CRs.mono (fun b hb=>hD.2 b hb) this
     | fr=>exact CRi.mono (fun b hb=>hD.1 b hb) this
     | sh=>
      cases y with
      | row sz es=>
       refine ⟨?_,fun b hb=>?_⟩
       ·rw [e1];exact this.1.mono (fun b hb=>hF _ b hb) fun b hb=>hmem b _ (this.2 b hb) fun e=>by cases e
       ·rw [e1] at hb;exact hown b _ (this.2 b hb) fun j e=>by cases e
      | _=>exact this.elim
     | dp n=>
      cases y with
      | row sz es=>
       obtain ⟨bs,d1,d2,d3⟩:=this
       have e2:W'.us o' c=W.us o' c:=if_neg fun hh=>hc hh.2
       exact ⟨bs,by rw [e2];exact d1.mono (fun b hb=>hF _ b hb) fun b hb=>hmem b _ (d3 b hb) (fun e=>by cases e),d2,fun b hb=>hown b _ (d3 b hb) fun j e=>by cases e⟩
      | _=>exact this.elim
     | dd n i j=>
      cases y with
      | row sz es=>
       obtain ⟨bs,d1,d2,d3⟩:=this
       have e2:W'.us o' c=W.us o' c:=if_neg fun hh=>hc hh.2
       exact ⟨bs,by rw [e2];exact d1.mono (fun b hb=>hF _ b hb) fun b hb=>hmem b _ (d3 b hb) (fun e=>by cases e),d2,fun b hb=>hown b _ (d3 b hb) fun j e=>by cases e⟩
      | _=>exact this.elim
    by_cases c1:c<off
    ·rw [if_pos c1] at hx' hv
     exact old (by omega) hx' hv
    ·rw [if_neg c1] at hx' hv
     by_cases c2:c<off+xs.length
     ·rw [if_pos c2] at hx' hv
      obtain ⟨x,hx,rfl⟩:=Option.map_eq_some_iff.1 hx'
      have hdx:=zl _ x v hx hv
      have hfx:=hfp _ x v hx hv
      obtain ⟨m,t,y⟩:=x
      cases m with
      | imm=>exact CRi.mono (fun b hb=>hF _ b hb) hdx
      | gone=>exact hdx.elim
      | dd n i j=>exact hdx.elim
      | ws=>exact CRs.mono (fun b hb=>hD.2 b hb) hdx
      | fr=>exact CRi.mono (fun b hb=>hD.1 b hb) hdx
      | dp n=>
       obtain ⟨sz,es,bs,he,d1,d2,d3⟩:=hfx.2 n rfl
       simp only at he;subst he
       have e2:W'.us o' c=usn (c - off):=if_pos ⟨rfl,by omega,c2⟩
       refine ⟨bs,by rw [e2];exact d1.mono (fun b hb=>hF _ b hb) fun b hb=>hmem b _ (d3 b hb) (fun e=>by cases e),d2,fun b hb=>?_⟩
       have:=hown2 b (c - off) (by omega) (d3 b hb)
       rwa [show off+(c - off)=c by omega] at this
      | sh=>
       obtain ⟨sz,es,he,h1,h2⟩:=hfx.1 rfl
       simp only at he;subst he
       have e1:W'.fp o' c=fpn (c - off):=by
        show (if o'=o'∧off≤c∧c<off+xs.length then fpn (c - off) else W.fp o' c)=_
        rw [if_pos ⟨rfl,by omega,c2⟩]
       refine ⟨?_,fun b hb=>?_⟩
       ·rw [e1];exact h1.mono (fun b hb=>hF _ b hb) fun b hb=>hmem b _ (h2 b hb) fun e=>by cases e
       ·rw [e1] at hb
        have:=hown2 b (c - off) (by omega) (h2 b hb)
        rwa [show off+(c - off)=c by omega] at this
     ·rw [if_neg c2] at hx' hv
      exact old (by omega) hx' hv
   ·intro _
    refine ⟨jR,T,fr,hb',?_,hfr,fun _=>hown _ _ hroot (fun j e=>by cases e),fun hf=>?_⟩
    ·rw [harr]
     show _=(if o'=o' then _ else _)
     rw [if_pos rfl]
    ·rw [show ob'.fz=ob.fz from rfl,hfz] at hf;cases hf
   ·rw [show ob'.fz=ob.fz from rfl,hfz] at hf;cases hf
   ·intro x' hx'
    obtain ⟨c,hc⟩:=List.getElem?_of_mem hx'
    rw [hcs] at hc
    show x'.s≤ob.ctr+1
    by_cases c1:c<off
    ·rw [if_pos c1] at hc
     exact Nat.le_succ_of_le (iq.ctr _ (List.mem_of_getElem? hc))
    ·rw [if_neg c1] at hc
     by_cases c2:c<off+xs.length
     ·rw [if_pos c2] at hc
      obtain ⟨x,_,rfl⟩:=Option.map_eq_some_iff.1 hc
      exact Nat.le_refl _
     ·rw [if_neg c2] at hc
      exact Nat.le_succ_of_le (iq.ctr _ (List.mem_of_getElem? hc))
  ·simp only [St.setObj,upd_ne _ _ e] at hL'
   have e1:W'.vals o'=W.vals o':=by
    show (if o'=o then _ else W.vals o')=_
    rw [if_neg e]
   refine (h.iJ o' obx hL').keep hF e1 rfl (fun c=>?_) (fun c=>if_neg fun hh=>e hh.1) (fun c b hb=>⟨hown b _ hb (fun j e=>by cases e),hmem b _ hb fun e=>by cases e⟩) (fun hm'=>?_) hD
   ·show (if o'=o∧off≤c∧c<off+xs.length then fpn (c - off) else W.fp o' c)=_
    rw [if_neg fun hh=>e hh.1]
   ·obtain ⟨abA,Tx,frx,h1,h2,h3,h4,h5⟩:=(h.iJ o' obx hL').mem hm'
    cases hf:obx.fz
    ·exact ⟨hmem _ _ (h4 hf) (fun e'=>by injection e' with e';exact e e'),fun _=>hown _ _ (h4 hf) fun j e=>by cases e⟩
    ·exact ⟨(hF 0 _ (by simpa [tg] using h5 hf)).2,fun h'=>by cases h'⟩
 ·intro b hb hl
  refine hne b fun e=>?_
  rcases (h.olt _ _ hroot).2 with h1 | h1
  ·omega
  ·rw [e] at hl;exact hl h1
theorem CRi.splice {Fp:Nat→Prop} {as ys:List AV} {vs us:List Value} (h:CRi w Fp as vs) (h':CRi w Fp ys us) (off:Nat):CRi w Fp (splice as off ys) (splice vs off us):=by
 unfold Sim.splice
 rw [←h'.length]
 exact (h.take off).append (h'.append (h.drop _))
omit [Lim] in
theorem PO {sz:Nat}:∀{es:List AV} {i off:Nat} {e e':AV} {ys:List AV},(∀e∈es,e.cells.length=sz)→es[i]?=some e→e'.cells=splice e.cells off ys→off+ys.length≤e.cells.length→
 (es.set i e').flatMap AV.cells=splice (es.flatMap AV.cells) (i*sz+off) ys
 | [],i,off,e,e',ys,hs,he,hc,hl=>by simp at he
 | x::es,0,off,e,e',ys,hs,he,hc,hl=>by
  simp at he;subst he
  simp only [List.set_cons_zero,List.flatMap_cons,hc,Nat.zero_mul,Nat.zero_add]
  unfold splice
  rw [List.take_append,List.drop_append]
  have e1:off - x.cells.length=0:=by omega
  have e2:off+ys.length - x.cells.length=0:=by omega
  rw [e1,e2]
  simp
 | x::es,i+1,off,e,e',ys,hs,he,hc,hl=>by
  have hx:x.cells.length=sz:=hs x (by simp)
  have ih:=PO (es:=es) (i:=i) (off:=off) (e:=e) (e':=e') (ys:=ys) (fun y hy=>hs y (by simp [hy])) (by simpa using he) hc hl
  simp only [List.set_cons_succ,List.flatMap_cons,ih]
  unfold splice
  have e1:(i+1) *sz+off=x.cells.length+(i*sz+off):=by rw [Nat.add_mul,hx];omega
  rw [e1,List.take_append,List.drop_append]
  have e2:x.cells.length+(i*sz+off) - x.cells.length=i*sz+off:=by omega
  have e3:x.cells.length+(i*sz+off)+ys.length - x.cells.length=i*sz+off+ys.length:=by omega
  have t1:x.cells.take (x.cells.length+(i*sz+off))=x.cells:=List.take_of_length_le (by omega)
  have t2:x.cells.drop (x.cells.length+(i*sz+off)+ys.length)=[]:=List.drop_eq_nil_of_le (by omega)
  rw [e2,e3,t1,t2]
  simp
omit [Lim] in
theorem TQ {e e':AV} {off:Nat} {ys:List AV} (h:e.splice off ys=some e') (hy:∀y∈ys,y.cells=[y]):e'.cells=splice e.cells off ys∧off+ys.length≤e.cells.length:=by
 unfold AV.splice at h
 split at h
 ·split at h
  ·rename_i hle
   cases h
   exact ⟨rfl,qH hle⟩
  ·cases h
 ·rename_i y hne
  split at h
  ·rename_i ho
   cases h
   have ho:=beq_eq ho
   subst ho
   have he:e.cells=[e]:=by
    cases e with
    | agg cs=>exact absurd rfl (hne cs)
    | _=>rfl
   rw [he,hy e' (by simp)]
   exact ⟨rfl,by simp⟩
  ·cases h
 ·cases h
theorem CRi.cells_one {Fp:Nat→Prop} {as:List AV} {vs:List Value} (h:CRi w Fp as vs):∀y∈as,y.cells=[y]:=by
 induction h with
 | nil=>intro y hy;cases hy
 | sc _ _ ih=>intro y hy;rcases List.mem_cons.1 hy with rfl | hy;rfl;exact ih y hy
 | gy _ ih=>intro y hy;rcases List.mem_cons.1 hy with rfl | hy;rfl;exact ih y hy
 | row _ _ _ _ _ _ _ _ ih=>intro y hy;rcases List.mem_cons.1 hy with rfl | hy;rfl;exact ih y hy
 | cp _ _ _ _ _ _ ih=>intro y hy;rcases List.mem_cons.1 hy with rfl | hy;rfl;exact ih y hy
 | clo _ _ _ ih=>intro y hy;rcases List.mem_cons.1 hy with rfl | hy;rfl;exact ih y hy
theorem Ym (h:Rel B st a w W) {o s c:Nat} {ob:Obj} {t' sz i off:Nat} {es:List AV} {e e':AV} (hc:st.cell o s c=some (ob,⟨.sh,s,t',.row sz es⟩)) (he:es[i]?=some e)
 {t:Nat} {ys:List AV} {us:List Value} (hy:CRi w (W.F (tg t)) ys us) (hsp:e.splice off ys=some e') {b ik cap:Nat} (hv:(W.vals o)[c]?=some (.slice (some ⟨b,ik,none⟩) es.length cap)):
 ∃arr T fr,w.heap[b]?=some (.cells arr T fr)∧(∀i<arr.size,¬(fr.1≤i∧i<fr.2))∧ik+i*sz+off+us.length≤arr.size∧
  ∀w' jR,w'.heap[b]?=some (.cells jR T fr)→jR.toList=splice arr.toList (ik+i*sz+off) us→(∀b',b'≠b→w'.heap[b']?=w.heap[b']?)→w'.heap.size=w.heap.size→(w'.os=w.os∧w'.output=w.output)→
   ∃W',Rel B (st.setObj o {ob with cs:=ob.cs.set c ⟨.sh,s,Nat.max t t',.row sz (es.set i e')⟩}) a w' W':=by
 obtain ⟨hL,hx,-⟩:=eF hc
 obtain ⟨v,hv2,hok,iq⟩:=h.cellAt hc
 rw [hv] at hv2;cases hv2
 obtain ⟨hrow,hown⟩:=hok
 obtain ⟨hcs,hle⟩:=TQ hsp hy.cells_one
 rcases hrow with ⟨hn,_,_⟩ | ⟨b',off',cap',arr,T,fr,us0,rest,hv3,hfp,hh,hfr,hs,hd,hcr,hlc,hrm⟩
 ·subst hn;simp at he
 ·cases hv3
  have hi:i<es.length:=by
   rcases Nat.lt_or_ge i es.length with h' | h'
   ·exact h'
   ·rw [List.getElem?_eq_none h'] at he;cases he
  have hel:e.cells.length=sz:=hs e (List.mem_of_getElem? he)
  have hul:=hcr.length
  rw [flat_length hs] at hul
  have hyl:=hy.length
  have h4:i*sz+sz≤es.length*sz:=by
   have:=Nat.mul_le_mul_right sz (show i+1≤es.length by omega)
   rw [Nat.add_mul] at this;omega
  have h5:ik+(us0++rest).length≤arr.size:=by
   have:=congrArg List.length hd
   simp only [List.length_drop,Array.length_toList,List.length_append] at this ⊢
   have h6:us0.length+rest.length=0∨0<us0.length+rest.length:=by omega
   have:ik+cap*sz≤arr.size:=hrm
   omega
  simp only [List.length_append] at h5
  have hbo:W.own b=some (.cell o c):=hown b hfp
  refine ⟨arr,T,fr,hh,hfr,by omega,fun w' jR hw1 hw2 hne hsz hio=>?_⟩
  have hF:∀t b,W.F (tg t) b→W.F (tg t) b∧w'.heap[b]?=w.heap[b]?:=fun t b' hb=>⟨hb,hne b' fun e=>by
   have:=h.qF b' (h.f2 hb)
   rw [e,hbo] at this;cases this⟩
  have hmem:∀b' x,W.own b'=some x→x≠ .cell o c→w'.heap[b']?=w.heap[b']?:=fun b' x hb hx=>hne b' fun e=>by
   rw [e,hbo] at hb;cases hb;exact hx rfl
  let ob':Obj:={ob with cs:=ob.cs.set c ⟨.sh,s,Nat.max t t',.row sz (es.set i e')⟩}
  have hcl:c<ob.cs.length:=by
   rcases Nat.lt_or_ge c ob.cs.length with h' | h'
   ·exact h'
   ·rw [List.getElem?_eq_none h'] at hx;cases hx
  have hE:Ext st.L W (st.setObj o ob').L W:=by
   intro o' obx hL'
   by_cases eo:o'=o
   ·subst eo
    rw [hL] at hL';cases hL'
    refine ⟨ob',by simp only [St.setObj,upd_same],Nat.le_refl _,Nat.le_refl _,fun j x' hx'=> .inr ?_,fun _=>⟨rfl,rfl⟩⟩
    by_cases ej:c=j
    ·subst ej
     simp only [ob',List.getElem?_set_self hcl] at hx'
     cases hx'
     refine ⟨_,hx,rfl,rfl,fun _=>⟨(by intro e;cases e),fun sz' es' he'=>?_⟩,qG.none rfl⟩
     cases he'
     exact ⟨es,rfl,by simp⟩
    ·simp only [ob',List.getElem?_set_ne ej] at hx'
     exact ⟨x',hx',rfl,rfl,fun hm=>⟨hm,fun _ es he=>⟨es,he,rfl⟩⟩,qG.same rfl⟩
   ·exact ⟨obx,by simp only [St.setObj,upd_ne _ _ eo];exact hL',Nat.le_refl _,Nat.le_refl _,fun j x hx=> .inr ⟨x,hx,rfl,rfl,fun hm=>⟨hm,fun _ es he=>⟨es,he,rfl⟩⟩,qG.same rfl⟩,fun _=>⟨rfl,rfl⟩⟩
  have hD:TrK w w' W W:=TrK.of fun x b hb=>⟨hb,hmem b _ hb fun e=>by cases e⟩
  have hun:Dx w' b:=by
   have:jR.size=arr.size:=by
    have:=congrArg List.length hw2
    rw [gV (by simp;omega)] at this
    simpa using this
   exact ⟨jR,T,fr,hw1,by rw [this];exact hfr⟩
  refine ⟨W,?_⟩
  have:=h.step (hio:=hio) (L':=(st.setObj o ob').L) (w':=w') (W':=W) (fun _ _ hb=>hb) h.f01 h.f12 (fun _ _ hb=> .inl hb) h.qF (fun b hb=>by rw [hsz];exact h.flt b hb) (fun b x hb=>by rw [hsz];exact h.olt b x hb) (fun b hb=>(hF 2 b hb).2) hE (Par.set hL rfl rfl (fun _=>rfl) fun _ _=>rfl) ?_ ?_ (by omega) hD (fun b hb=> .inl hb) (fun b' x hb=>by
   by_cases e:b'=b
   ·subst e;exact .inr hun
   ·exact .inl ⟨⟨x,hb⟩,.inl (hne b' e)⟩)
  ·exact this
  ·intro o' obx hL'
   by_cases eo:o'=o
   ·subst eo
    simp only [St.setObj,upd_same] at hL'
    cases hL'
    refine {len:=by show (W.vals o').length=_;simpa [ob'] using iq.len,cells:=?_,mem:=?_,fz:=?_,ctr:=?_}
    ·intro j x' u hx' hu
     by_cases ej:c=j
     ·subst ej
      simp only [ob',List.getElem?_set_self hcl] at hx'
      cases hx'
      have hu':(W.vals o')[c]?=some u:=hu
      rw [hv] at hu';cases hu'
      refine ⟨.inr ⟨b,ik,cap,jR,T,fr,splice us0 (i*sz+off) us,rest,by simp,hfp,hw1,?_,?_,?_,?_,by simpa using hlc,?_⟩,fun b' hb'=>hown b' hb'⟩
      ·have:jR.size=arr.size:=by
        have:=congrArg List.length hw2
        rw [gV (by simp;omega)] at this
        simpa using this
       rw [this];exact hfr
      ·intro x hx
       rcases List.mem_or_eq_of_mem_set hx with hx | rfl
       ·exact hs x hx
       ·rw [hcs,gV hle,hel]
      ·rw [hw2]
       apply List.ext_getElem?
       intro j
       rw [List.getElem?_drop,mD (by simp;omega)]
       have hdj:∀j,arr.toList[ik+j]?=(us0++rest)[j]?:=fun j=>by rw [←hd,List.getElem?_drop]
       have hsl:(splice us0 (i*sz+off) us).length=us0.length:=gV (by omega)
       by_cases j1:j<us0.length
       ·rw [List.getElem?_append_left (by omega),mD (by omega)]
        by_cases c1:j<i*sz+off
        ·rw [if_pos (by omega),if_pos c1,hdj,List.getElem?_append_left j1]
        ·rw [if_neg (by omega),if_neg c1]
         by_cases c2:j<i*sz+off+us.length
         ·rw [if_pos (by omega),if_pos c2];congr 1;omega
         ·rw [if_neg (by omega),if_neg c2,hdj,List.getElem?_append_left j1]
       ·rw [List.getElem?_append_right (by omega),if_neg (by omega),if_neg (by omega),hdj,List.getElem?_append_right (by omega),hsl]
      ·rw [PO hs he hcs hle]
       refine CRi.splice ?_ ?_ _
       ·exact hcr.mono fun b' hb'=>⟨h.fle (Nat.le_max_right _ _) hb',(hF _ _ hb').2⟩
       ·exact hy.mono fun b' hb'=>⟨h.fle (Nat.le_max_left _ _) hb',(hF _ _ hb').2⟩
      ·have:jR.size=arr.size:=by
        have:=congrArg List.length hw2
        rw [gV (by simp;omega)] at this
        simpa using this
       rw [this];exact hrm
     ·simp only [ob',List.getElem?_set_ne ej] at hx'
      have:=iq.cells j x' u hx' hu
      obtain ⟨m,s',t',z⟩:=x'
      cases m with
      | imm=>exact CRi.mono (fun b hb=>hF _ b hb) this
      | gone=>trivial
      | ws=>exact CRs.mono (fun b hb=>hD.2 b hb) this
      | fr=>exact CRi.mono (fun b hb=>hD.1 b hb) this
      | sh=>
       cases z with
       | row sz' es'=>exact ⟨this.1.mono (fun b hb=>hF _ b hb) fun b' hb'=>hmem b' _ (this.2 b' hb') (fun e=>by injection e with _ e;exact ej e.symm),this.2⟩
       | _=>exact this.elim
      | dp n=>
       cases z with
       | row sz' es'=>
        obtain ⟨bs,d1,d2,d3⟩:=this
        exact ⟨bs,d1.mono (fun b hb=>hF _ b hb) fun b' hb'=>hmem b' _ (d3 b' hb') (fun e=>by injection e with _ e;exact ej e.symm),d2,d3⟩
       | _=>exact this.elim
      | dd n i j=>
       cases z with
       | row sz' es'=>
        obtain ⟨bs,d1,d2,d3⟩:=this
        exact ⟨bs,d1.mono (fun b hb=>hF _ b hb) fun b' hb'=>hmem b' _ (d3 b' hb') (fun e=>by injection e with _ e;exact ej e.symm),d2,d3⟩
       | _=>exact this.elim
    ·intro hm
     obtain ⟨abA,Tx,frx,h1,h2,h3,h4,h5⟩:=iq.mem hm
     refine ⟨abA,Tx,frx,?_,h2,h3,h4,h5⟩
     cases hf:ob.fz
     ·rw [hmem _ _ (h4 hf) (fun e=>by cases e)];exact h1
     ·rw [(hF 0 _ (by simpa [tg] using h5 hf)).2];exact h1
    ·intro hf x' hx'
     have hf':=MH iq hx (by intro e;cases e) (by intro e;cases e)
     rw [show ob.fz=true from hf] at hf'
     cases hf'
    ·intro x' hx'
     rcases List.mem_or_eq_of_mem_set hx' with hx' | rfl
     ·exact iq.ctr x' hx'
     ·exact (iq.ctr _ (List.mem_of_getElem? hx):s≤ob.ctr)
   ·simp only [St.setObj,upd_ne _ _ eo] at hL'
    refine (h.iJ o' obx hL').keep hF rfl rfl (fun _=>rfl) (fun _=>rfl) (fun c' b' hb'=>⟨hb',hmem b' _ hb' (fun e=>by injection e with e1 _;exact eo e1)⟩) (fun hm'=>?_) hD
    obtain ⟨abA,Tx,frx,h1,h2,h3,h4,h5⟩:=(h.iJ o' obx hL').mem hm'
    refine ⟨?_,h4⟩
    cases hf:obx.fz
    ·exact hmem _ _ (h4 hf) (fun e=>by cases e)
    ·exact (hF 0 _ (by simpa [tg] using h5 hf)).2
  ·intro b' hb hl
   refine hne b' fun e=>?_
   rcases (h.olt _ _ hbo).2 with h1 | h1
   ·omega
   ·rw [e] at hl;exact hl h1
omit [Lim] in
theorem EM {α:Type} {l:List α} {p:Nat} {x:α} (h:p<l.length):splice l p [x]=l.set p x:=by
 apply List.ext_getElem?
 intro j
 rw [mD (by simp;omega)]
 by_cases e:j=p
 ·subst e
  rw [if_neg (by omega),if_pos (by simp),List.getElem?_set_self h]
  simp
 ·rw [List.getElem?_set_ne (Ne.symm e)]
  by_cases c1:j<p
  ·rw [if_pos c1]
  ·rw [if_neg c1,if_neg (by simp;omega)]
theorem WL (h:Rel B st a w W) {o s c:Nat} {ob:Obj} {n i j t' sz:Nat} {es:List AV} {e e':AV} (hc:st.cell o s c=some (ob,⟨.dd n i j,s,t',.row sz es⟩)) (he:es[i]?=some e)
 {k t z:Nat} {as:List AV} {u:Value} (zl:mg w W k ⟨.sh,t,.row z as⟩ u) (hsp:e.splice j [.row z as]=some e') {b ik cap:Nat} (hv:(W.vals o)[c]?=some (.slice (some ⟨b,ik,none⟩) es.length cap)):
 ∃arr T fr,w.heap[b]?=some (.cells arr T fr)∧(∀i<arr.size,¬(fr.1≤i∧i<fr.2))∧ik+i*sz+j+1≤arr.size∧
  ∀w' jR,w'.heap[b]?=some (.cells jR T fr)→jR.toList=splice arr.toList (ik+i*sz+j) [u]→(∀b',b'≠b→w'.heap[b']?=w.heap[b']?)→w'.heap.size=w.heap.size→(w'.os=w.os∧w'.output=w.output)→
   ∃W',Rel B (st.setObj o {ob with cs:=ob.cs.set c ⟨.dp (n+1),s,Nat.max t t',.row sz (es.set i e')⟩}) a w' W':=by
 obtain ⟨hL,hx,-⟩:=eF hc
 simp only at hL hx
 obtain ⟨v,hv2,hok,iq⟩:=h.cellAt hc
 rw [hv] at hv2;cases hv2
 obtain ⟨bs,adg,hnd,hown⟩:=hok
 obtain ⟨hcs,hle⟩:=TQ hsp (fun x hx=>by simp at hx;subst hx;rfl)
 obtain ⟨z',as',ob0,hza,hin,abB⟩:=zl
 cases hza
 rcases adg with ⟨hn,_⟩ | ⟨b',off',cap',arr,T,fr,rest,ibs,hv3,hbs,hh,hfr,hs,hd,⟨hp1,hp2,hcr⟩,hlc,hrm⟩
 ·rw [hn] at he;simp at he
 ·cases hv3
  have hfz:ob.fz=false:=MH iq hx (by intro e;cases e) (by intro e;cases e)
  have hel:e.cells.length=sz:=hs e (List.mem_of_getElem? he)
  have hbo:W.own b=some (.cell o c):=hown b (by rw [hbs];simp)
  have h5:ik+((W.us o c)++rest).length≤arr.size:=by
   have:=congrArg List.length hd
   simp only [List.length_drop,Array.length_toList,List.length_append] at this ⊢
   omega
  simp only [List.length_append] at h5
  have hp1:i*sz+j< (W.us o c).length:=hp1
  refine ⟨arr,T,fr,hh,hfr,by omega,fun w' jR hw1 hw2 hne hsz hio=>?_⟩
  have hF:∀t b,W.F (tg t) b→W.F (tg t) b∧w'.heap[b]?=w.heap[b]?:=fun t b' hb=>⟨hb,hne b' fun e=>by
   have:=h.qF b' (h.f2 hb)
   rw [e,hbo] at this;cases this⟩
  have hmem:∀b' x,W.own b'=some x→x≠ .cell o c→w'.heap[b']?=w.heap[b']?:=fun b' x hb hx=>hne b' fun e=>by
   rw [e,hbo] at hb;cases hb;exact hx rfl
  let ob':Obj:={ob with cs:=ob.cs.set c ⟨.dp (n+1),s,Nat.max t t',.row sz (es.set i e')⟩}
  let W':Wit:={W.xC (fun b=>ob0=some b) (some (.cell o c)) with us:=fun o' c'=>if o'=o∧c'=c then (W.us o c).set (i*sz+j) u else W.us o' c'}
  have TR:W'.own=(W.xC (fun b=>ob0=some b) (some (.cell o c))).own:=rfl
  have hown':∀b x,W.own b=some x→x≠ .det k→W'.own b=some x:=fun b x hb hx=>by
   rw [TR,kS]
   ·exact hb
   ·intro e
    rw [abB b e] at hb;cases hb;exact hx rfl
  have af9:∀o' c',¬(o'=o∧c'=c)→W'.us o' c'=W.us o' c':=fun o' c' hh=>if_neg hh
  have ale:W'.us o c=(W.us o c).set (i*sz+j) u:=if_pos ⟨rfl,rfl⟩
  have hcl:c<ob.cs.length:=by
   rcases Nat.lt_or_ge c ob.cs.length with h' | h'
   ·exact h'
   ·rw [List.getElem?_eq_none h'] at hx;cases hx
  have hE:Ext st.L W (st.setObj o ob').L W':=by
   intro o' obx hL'
   by_cases eo:o'=o
   ·subst eo
    rw [hL] at hL';cases hL'
    refine ⟨ob',by simp only [St.setObj,upd_same],Nat.le_refl _,Nat.le_refl _,fun q x' hx'=> .inr ?_,fun _=>⟨rfl,rfl⟩⟩
    by_cases ej:c=q
    ·subst ej
     simp only [ob',List.getElem?_set_self hcl] at hx'
     cases hx'
     refine ⟨_,hx,rfl,rfl,fun _=>⟨(by intro e;cases e),fun sz' es' he'=>?_⟩,⟨(fun k hk=>by cases hk;exact ⟨n,rfl,Nat.le_succ _⟩),fun m a b e=>?_⟩⟩
     ·cases he'
      exact ⟨es,rfl,by simp⟩
     ·have e:n+1=m:=e
      exact .inr ⟨n,rfl,by omega⟩
    ·simp only [ob',List.getElem?_set_ne ej] at hx'
     exact ⟨x',hx',rfl,rfl,fun hm=>⟨hm,fun _ es he=>⟨es,he,rfl⟩⟩,qG.same (af9 _ _ fun hh=>ej hh.2.symm)⟩
   ·exact ⟨obx,by simp only [St.setObj,upd_ne _ _ eo];exact hL',Nat.le_refl _,Nat.le_refl _,fun q x hx=> .inr ⟨x,hx,rfl,rfl,fun hm=>⟨hm,fun _ es he=>⟨es,he,rfl⟩⟩,qG.same (af9 _ _ fun hh=>eo hh.1)⟩,fun _=>⟨rfl,rfl⟩⟩
  have hD:TrK w w' W W':=TrK.of fun x b hb=>⟨hown' b _ hb (fun e=>by cases e),hmem b _ hb fun e=>by cases e⟩
  have hun:Dx w' b:=by
   have:jR.size=arr.size:=by
    have:=congrArg List.length hw2
    rw [gV (by simp;omega)] at this
    simpa using this
   exact ⟨jR,T,fr,hw1,by rw [this];exact hfr⟩
  refine ⟨W',?_⟩
  have:=h.step (hio:=hio) (L':=(st.setObj o ob').L) (w':=w') (W':=W') (fun _ _ hb=>hb) h.f01 h.f12 (fun _ _ hb=> .inl hb) (fun b hb=>?_) (fun b hb=>by rw [hsz];exact h.flt b hb) (fun b x hb=>?_) (fun b hb=>(hF 2 b hb).2) hE (Par.set hL rfl rfl (fun _=>rfl) fun _ _=>rfl) ?_ ?_ (by omega) hD (fun b hb=> .inl hb) (fun b' x hb=>by
   by_cases e:b'=b
   ·subst e;exact .inr hun
   ·refine .inl ⟨?_,.inl (hne b' e)⟩
    by_cases e:ob0=some b'
    ·exact ⟨_,abB b' e⟩
    ·rw [TR,kS W e] at hb;exact ⟨_,hb⟩)
  ·exact this
  ·rw [TR,kS]
   ·exact h.qF b hb
   ·intro e
    have:=abB b e
    rw [h.qF b hb] at this;cases this
  ·rw [hsz]
   by_cases e:ob0=some b
   ·exact h.olt b _ (abB b e)
   ·rw [TR,kS W e] at hb;exact h.olt b x hb
  ·intro o' obx hL'
   by_cases eo:o'=o
   ·subst eo
    simp only [St.setObj,upd_same] at hL'
    cases hL'
    refine {len:=by show (W.vals o').length=_;simpa [ob'] using iq.len,cells:=?_,mem:=?_,fz:=(fun hf=>by rw [show ob.fz=true from hf] at hfz;cases hfz),ctr:=?_}
    ·intro q x' u' hx' hu
     by_cases ej:c=q
     ·subst ej
      simp only [ob',List.getElem?_set_self hcl] at hx'
      cases hx'
      have hu':(W.vals o')[c]?=some u':=hu
      rw [hv] at hu';cases hu'
      have hFt:∀b,W.F (tg t) b→W.F (tg (Nat.max t t')) b:=fun b hb=>h.fle (Nat.le_max_left _ _) hb
      have anI:∀b,W.F (tg t') b→W.F (tg (Nat.max t t')) b:=fun b hb=>h.fle (Nat.le_max_right _ _) hb
      have hin':kJ w' (W.F (tg (Nat.max t t'))) z as u ob0:=hin.mono (fun b hb=>⟨hFt b hb,(hF _ _ hb).2⟩) fun b hb=>hmem b _ (abB b hb) fun e=>by cases e
      have hbn:∀x∈ibs,x≠b:=fun x hx e=>by
       rw [hbs] at hnd
       exact (List.nodup_cons.1 hnd).1 (e ▸ hx)
      have anJ:CRo w' (W.F (tg (Nat.max t t'))) ((es.flatMap AV.cells).eraseIdx (i*sz+j)) ((W.us o' c).eraseIdx (i*sz+j)) ibs:=hcr.mono (fun b hb=>⟨anI b hb,(hF _ _ hb).2⟩) fun x hx=>hne x (hbn x hx)
      obtain ⟨bs1,bs2,e1,e2⟩:=CRo.put hin' (i*sz+j) (by rw [hp2];exact hp1) hp2 anJ
      have harr:jR.size=arr.size:=by
       have:=congrArg List.length hw2
       rw [gV (by simp;omega)] at this
       simpa using this
      refine ⟨b::(bs1++(ob0.toList++bs2)),.inr ⟨b,ik,cap,jR,T,fr,rest,bs1++(ob0.toList++bs2),by simp,rfl,hw1,by rw [harr];exact hfr,?_,?_,?_,by simpa using hlc,by rw [harr];exact hrm⟩,?_,fun x hx=>?_⟩
      ·intro x hx
       rcases List.mem_or_eq_of_mem_set hx with hx | rfl
       ·exact hs x hx
       ·rw [hcs,gV hle,hel]
      ·rw [ale,hw2,EM (by simp;omega)]
       apply List.ext_getElem?
       intro q
       have hdq:∀q,arr.toList[ik+q]?=(W.us o' c++rest)[q]?:=fun q=>by rw [←hd,List.getElem?_drop]
       rw [List.getElem?_drop]
       by_cases eq:q=i*sz+j
       ·subst eq
        rw [←Nat.add_assoc,List.getElem?_set_self (by simp;omega),List.getElem?_append_left (by simp;omega),List.getElem?_set_self hp1]
       ·rw [List.getElem?_set_ne (by omega),hdq]
        by_cases q1:q< (W.us o' c).length
        ·rw [List.getElem?_append_left q1,List.getElem?_append_left (by simp;omega),List.getElem?_set_ne (Ne.symm eq)]
        ·rw [List.getElem?_append_right (by omega),List.getElem?_append_right (by simp;omega),List.length_set]
      ·show CRo w' (W.F (tg (Nat.max t t'))) ((es.set i e').flatMap AV.cells) (W'.us o' c) _
       rw [ale,PO hs he hcs hle,EM (by rw [hp2];exact hp1)]
       exact e2
      ·have hdis:∀x,ob0=some x→x∉b::ibs:=fun x hx hm=>by
        have:=hown x (by rw [hbs];exact hm)
        rw [abB x hx] at this;cases this
       rw [hbs,e1] at hnd
       obtain ⟨n1,n2⟩:=List.nodup_cons.1 hnd
       obtain ⟨n3,n4,n5⟩:=List.nodup_append.1 n2
       cases hob:ob0 with
       | none=>simpa using hnd
       | some x=>
        have hx:=hdis x hob
        rw [e1] at hx
        simp only [List.mem_cons,List.mem_append,not_or] at hx
        refine List.nodup_cons.2 ⟨?_,List.nodup_append.2 ⟨n3,?_,?_⟩⟩
        ·intro hm
         simp only [Option.toList,List.mem_append,List.mem_singleton] at hm
         rcases hm with hm | hm | hm
         ·exact n1 (List.mem_append_left _ hm)
         ·exact hx.1 hm.symm
         ·exact n1 (List.mem_append_right _ hm)
        ·simp only [Option.toList,List.singleton_append]
         exact List.nodup_cons.2 ⟨hx.2.2,n4⟩
        ·intro y hy w0 hw0 e
         simp only [Option.toList,List.singleton_append,List.mem_cons] at hw0
         rcases hw0 with rfl | hw0
         ·exact hx.2.1 (e ▸ hy)
         ·exact n5 y hy w0 hw0 e
      ·simp only [List.mem_cons,List.mem_append] at hx
       by_cases e0:ob0=some x
       ·rw [TR];exact MG W e0
       ·rw [TR,kS W e0]
        refine hown x ?_
        rw [hbs,e1]
        rcases hx with rfl | hx | hx | hx
        ·simp
        ·simp [hx]
        ·cases hob:ob0 with
         | none=>rw [hob] at hx;simp at hx
         | some y=>
          rw [hob] at hx
          simp at hx
          rw [hob,hx] at e0
          exact absurd rfl e0
        ·simp [hx]
     ·simp only [ob',List.getElem?_set_ne ej] at hx'
      have:=iq.cells q x' u' hx' hu
      have huq:W'.us o' q=W.us o' q:=af9 _ _ fun hh=>ej hh.2.symm
      have ho1:∀b,W.own b=some (.cell o' q)→W'.own b=some (.cell o' q)∧w'.heap[b]?=w.heap[b]?:=fun b hb=>⟨hown' b _ hb (fun e=>by cases e),hmem b _ hb fun e=>by injection e with _ e;exact ej e.symm⟩
      obtain ⟨m,s',t',z⟩:=x'
      cases m with
      | imm=>exact CRi.mono (fun b hb=>hF _ b hb) this
      | gone=>trivial
      | ws=>exact CRs.mono (fun b hb=>hD.2 b hb) this
      | fr=>exact CRi.mono (fun b hb=>hD.1 b hb) this
      | sh=>
       cases z with
       | row sz' es'=>exact ⟨this.1.mono (fun b hb=>hF _ b hb) fun b' hb'=>(ho1 b' (this.2 b' hb')).2,fun b' hb'=>(ho1 b' (this.2 b' hb')).1⟩
       | _=>exact this.elim
      | dp n=>
       cases z with
       | row sz' es'=>
        obtain ⟨bs,d1,d2,d3⟩:=this
        exact ⟨bs,by rw [huq];exact d1.mono (fun b hb=>hF _ b hb) fun b' hb'=>(ho1 b' (d3 b' hb')).2,d2,fun b' hb'=>(ho1 b' (d3 b' hb')).1⟩
       | _=>exact this.elim
      | dd n i j=>
       cases z with
       | row sz' es'=>
        obtain ⟨bs,d1,d2,d3⟩:=this
        exact ⟨bs,by rw [huq];exact d1.mono (fun b hb=>hF _ b hb) fun b' hb'=>(ho1 b' (d3 b' hb')).2,d2,fun b' hb'=>(ho1 b' (d3 b' hb')).1⟩
       | _=>exact this.elim
    ·intro hm
     obtain ⟨abA,Tx,frx,h1,h2,h3,h4,h5⟩:=iq.mem hm
     exact ⟨abA,Tx,frx,(hmem _ _ (h4 hfz) (fun e=>by cases e)).trans h1,h2,h3,fun hf=>hown' _ _ (h4 hf) (fun e=>by cases e),h5⟩
    ·intro x' hx'
     rcases List.mem_or_eq_of_mem_set hx' with hx' | rfl
     ·exact iq.ctr x' hx'
     ·exact (iq.ctr _ (List.mem_of_getElem? hx):s≤ob.ctr)
   ·simp only [St.setObj,upd_ne _ _ eo] at hL'
    refine (h.iJ o' obx hL').keep hF rfl rfl (fun _=>rfl) (fun c'=>af9 _ _ fun hh=>eo hh.1) (fun c' b' hb'=>⟨hown' b' _ hb' (fun e=>by cases e),hmem b' _ hb' (fun e=>by injection e with e1 _;exact eo e1)⟩) (fun hm'=>?_) hD
    obtain ⟨abA,Tx,frx,h1,h2,h3,h4,h5⟩:=(h.iJ o' obx hL').mem hm'
    cases hf:obx.fz
    ·exact ⟨hmem _ _ (h4 hf) (fun e=>by cases e),fun _=>hown' _ _ (h4 hf) fun e=>by cases e⟩
    ·exact ⟨(hF 0 _ (by simpa [tg] using h5 hf)).2,fun h'=>by cases h'⟩
  ·intro b' hb hl
   refine hne b' fun e=>?_
   rcases (h.olt _ _ hbo).2 with h1 | h1
   ·omega
   ·rw [e] at hl;exact hl h1
end
end
end Go.Sim
