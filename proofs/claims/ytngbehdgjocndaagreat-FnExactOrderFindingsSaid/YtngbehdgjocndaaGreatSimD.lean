/- The first laws of the relation: operands, results that are written, steps of the world. Conditions: none. -/
import Derived.Test.YtngbehdgjocndaaGreatSimC
namespace Go.Sim
variable [Lim]
omit [Lim] in
theorem Act.ada {a:Act} {d t:Nat} {u:Value} (hd:d<a.tmps.size):(a.put (some d) u).tmps.getD t undef=if t=d then u else a.tmps.getD t undef:=by
 simp only [Act.put,Array.getD_eq_getD_getElem?]
 by_cases h:t=d
 ·subst h;simp [hd]
 ·rw [if_neg h,Array.getElem?_setIfInBounds_ne (fun e=>h e.symm)]
omit [Lim] in
theorem Act.size_put {a:Act} {d:Option Tmp} {u:Value}:(a.put d u).tmps.size=a.tmps.size:=by
 cases d<;>simp [Act.put]
omit [Lim] in
theorem Act.Yi {a:Act} {d:Option Tmp} {u:Value}:(a.put d u).defers=a.defers:=by
 cases d<;>rfl
omit [Lim] in
theorem upd_same {α:Type} (f:Nat→α) (i:Nat) (x:α):upd f i x i=x:=by simp [upd]
omit [Lim] in
theorem MF {i j:Nat} (h:j≠i):j.beq i=false:=by
 cases hb:j.beq i
 ·rfl
 ·exact absurd (Nat.eq_of_beq_eq_true hb) h
omit [Lim] in
theorem upd_ne {α:Type} (f:Nat→α) {i j:Nat} (x:α) (h:j≠i):upd f i x j=f j:=by
 simp [upd,MF h]
section
variable {B:Base} {st:St} {a:Act} {w:World} {W:Wit}
theorem Rel.put (h:Rel B st a w W) {d:Nat} (hd:d<B.nt) {sv:SV} {u:Value} (hs:SR w W st.L sv u):Rel B (st.cZ d sv) (a.put (some d) u) w W:=
 {f01:=h.f01,f12:=h.f12,fb:=h.fb,I9:=h.I9,qF:=h.qF,flt:=h.flt,olt:=h.olt,iJ:=h.iJ,par:=h.par,frame:=h.frame,size:=h.size,io:=h.io,uf:=h.uf,ouf:=h.ouf,tsh:=h.tsh
  slots:=fun t=>by
   rw [Act.ada (by rw [h.tmps];exact hd)]
   by_cases e:t=d
   ·subst e;simp [St.cZ,upd_same,hs]
   ·rw [if_neg e];simp only [St.cZ,upd_ne _ _ e];exact h.slots t
  defers:=by rw [Act.Yi];exact h.defers
  tmps:=by rw [Act.size_put];exact h.tmps}
theorem Rel.fle (h:Rel B st a w W) {t t':Nat} (ht:t≤t') {b:Nat} (hb:W.F (tg t) b):W.F (tg t') b:=by
 have h1:=h.f01 b
 have h2:=h.f12 b
 have e1:tg t=0∨tg t=1∨tg t=2:=by unfold tg;omega
 have e2:tg t'=0∨tg t'=1∨tg t'=2:=by unfold tg;omega
 have e3:tg t≤tg t':=by unfold tg;omega
 rcases e1 with e1 | e1 | e1<;>rcases e2 with e2 | e2 | e2<;>rw [e1] at hb e3<;>rw [e2] at e3 ⊢<;>first | exact hb | exact h1 hb | exact h2 hb | exact h2 (h1 hb) | omega
theorem Rel.f2 (h:Rel B st a w W) {t:Nat} {b:Nat} (hb:W.F (tg t) b):W.F 2 b:=by
 have:=h.fle (t:=t) (t':=Nat.max t 2) (Nat.le_max_left _ _) hb
 have e:tg (Nat.max t 2)=2:=by
  have:2≤Nat.max t 2:=Nat.le_max_right _ _
  unfold tg;omega
 rwa [e] at this
theorem adb (w:World) (W:Wit) (L:Nat→Option Obj) (v:Value):SR w W L (ofConst v) v:=by
 unfold ofConst
 split
 ·rename_i hp;exact .inr ⟨rfl,_,rfl,.sc hp .nil⟩
 ·split
  ·rename_i hn
   refine .inr ⟨rfl,_,rfl,?_⟩
   show v=_
   unfold BX at hn
   split at hn
   ·rfl
   ·cases hn
  ·exact .inr ⟨rfl,_,rfl,trivial⟩
theorem Rel.get (h:Rel B st a w W) (x:Operand):SR w W st.L (st.get x) (a.eval x):=by
 cases x with
 | tmp t=>exact h.slots t
 | const v=>exact adb w W st.L v
 | global g=>exact .inr ⟨rfl,_,rfl,trivial⟩
 | func f=>exact ⟨#[],rfl,.nil⟩
def qG (m m':OM) (e:Prop):Prop:=(∀k',m'.cnt=some k'→∃k,m.cnt=some k∧k≤k')∧∀n i j,m'.pin n i j→(m.pin n i j∧e)∨∃k,m.cnt=some k∧k<n
omit [Lim] in
theorem qG.same {m:OM} {e:Prop} (h:e):qG m m e:=⟨fun k hk=>⟨k,hk,Nat.le_refl _⟩,fun _ _ _ hn=> .inl ⟨hn,h⟩⟩
omit [Lim] in
theorem qG.none {m m':OM} {e:Prop} (h:m'.cnt=none):qG m m' e:=⟨fun k hk=>by (rw [h] at hk;cases hk),fun _ _ _ hn=>by (cases m'<;>first | exact hn.elim | cases h)⟩
omit [Lim] in
theorem qG.trans {m1 m2 m3:OM} {e1 e2 e3:Prop} (h1:qG m1 m2 e1) (h2:qG m2 m3 e2) (he:e1→e2→e3):qG m1 m3 e3:=by
 refine ⟨fun k3 hk3=>?_,fun n i j hn=>?_⟩
 ·obtain ⟨k2,q1,q2⟩:=h2.1 k3 hk3
  obtain ⟨k1,r1,r2⟩:=h1.1 k2 q1
  exact ⟨k1,r1,Nat.le_trans r2 q2⟩
 ·rcases h2.2 n i j hn with ⟨q1,q2⟩ | ⟨k2,q1,q2⟩
  ·rcases h1.2 n i j q1 with ⟨r1,r2⟩ | h
   ·exact .inl ⟨r1,he r2 q2⟩
   ·exact .inr h
  ·obtain ⟨k1,r1,r2⟩:=h1.1 k2 q1
   exact .inr ⟨k1,r1,Nat.lt_of_le_of_lt r2 q2⟩
def Ext (L:Nat→Option Obj) (W:Wit) (L':Nat→Option Obj) (W':Wit):Prop:=
 ∀o ob,L o=some ob→∃ob',L' o=some ob'∧ob.ctr≤ob'.ctr∧ob.gen≤ob'.gen∧
  (∀(c:Nat) x',ob'.cs[c]?=some x'→ob.ctr<x'.s∨∃x,ob.cs[c]?=some x∧x.s=x'.s∧(W'.vals o)[c]?=(W.vals o)[c]?∧
    (x'.m≠ .gone→x.m≠ .gone∧∀sz es',x'.a= .row sz es'→∃es,x.a= .row sz es∧es.length=es'.length)∧
    qG x.m x'.m (W'.us o c=W.us o c))∧
  (ob'.gen=ob.gen→ob'.mem=ob.mem∧W'.blk o=W.blk o)
omit [Lim] in
theorem Ext.refl (L:Nat→Option Obj) (W:Wit):Ext L W L W:=fun _ ob h=>
 ⟨ob,h,Nat.le_refl _,Nat.le_refl _,fun _ x hx=> .inr ⟨x,hx,rfl,rfl,fun hm=>⟨hm,fun _ es he=>⟨es,he,rfl⟩⟩,qG.same rfl⟩,fun _=>⟨rfl,rfl⟩⟩
theorem RR.ext {w w':World} {W W':Wit} {L L':Nat→Option Obj} (hF:∀t b,W.F (tg t) b→W'.F (tg t) b∧w'.heap[b]?=w.heap[b]?) (hE:Ext L W L' W') (hD:TrK w w' W W') {r:RV} {v:Value}
 (h:RR w W L r v):RR w' W' L' r v:=by
 cases r with
 | im t x=>exact CRi.mono (fun b hb=>hF _ b hb) h
 | nil=>exact h
 | qC=>trivial
 | fr x=>exact CRi.mono (fun b hb=>hD.1 b hb) h
 | ws x=>exact CRs.mono (fun b hb=>hD.2 b hb) h
 | own o s c=>
  obtain ⟨ob,hL,hs,hx⟩:=h
  obtain ⟨ob',hL',hc,hg,hcells,_⟩:=hE o ob hL
  refine ⟨ob',hL',Nat.le_trans hs hc,fun x' hx' hs'=>?_⟩
  rcases hcells c x' hx' with hlt | ⟨x,hx1,hxs,hv,_⟩
  ·omega
  ·rw [hv];exact hx x hx1 (hxs.trans hs')
 | sub o s c lo hi=>
  obtain ⟨ob,hL,hs,hx⟩:=h
  obtain ⟨ob',hL',hc,hg,hcells,_⟩:=hE o ob hL
  refine ⟨ob',hL',Nat.le_trans hs hc,fun x' hx' hs' hm' sz es' he'=>?_⟩
  rcases hcells c x' hx' with hlt | ⟨x,hx1,hxs,hv,hm,_⟩
  ·omega
  ·obtain ⟨hm1,hm2⟩:=hm hm'
   obtain ⟨es,he,hl⟩:=hm2 sz es' he'
   rw [hv,←hl];exact hx x hx1 (hxs.trans hs') hm1 sz es he
 | mp o s off=>
  obtain ⟨ob,hL,hs,hx⟩:=h
  obtain ⟨ob',hL',hc,hg,_,hmem⟩:=hE o ob hL
  refine ⟨ob',hL',Nat.le_trans hs hg,fun hs'=>?_⟩
  have e:ob.gen=s:=by omega
  obtain ⟨h1,h2⟩:=hx e
  obtain ⟨h3,h4⟩:=hmem (by omega)
  exact ⟨h3.trans h1,by rw [h4];exact h2⟩
 | mpe o s c i off=>
  obtain ⟨ob,hL,hs,hx⟩:=h
  obtain ⟨ob',hL',hc,hg,hcells,_⟩:=hE o ob hL
  refine ⟨ob',hL',Nat.le_trans hs hc,fun x' hx' hs' hm' sz es' he'=>?_⟩
  rcases hcells c x' hx' with hlt | ⟨x,hx1,hxs,hv,hm,_⟩
  ·omega
  ·obtain ⟨hm1,hm2⟩:=hm hm'
   obtain ⟨es,he,hl⟩:=hm2 sz es' he'
   rw [hv,←hl];exact hx x hx1 (hxs.trans hs') hm1 sz es he
 | inr o s c i j n=>
  obtain ⟨ob,hL,hs,hx⟩:=h
  obtain ⟨ob',hL',hc,hg,hcells,_⟩:=hE o ob hL
  refine ⟨ob',hL',Nat.le_trans hs hc,fun x' hx' hs'=>?_⟩
  rcases hcells c x' hx' with hlt | ⟨x,hx1,hxs,hv,hm,hd⟩
  ·omega
  ·obtain ⟨c1,c2⟩:=hx x hx1 (hxs.trans hs')
   refine ⟨fun k' hk'=>?_,fun hm' sz es' he'=>?_⟩
   ·obtain ⟨k,q1,q2⟩:=hd.1 k' hk'
    exact Nat.le_trans (c1 k q1) q2
   ·obtain ⟨_,hm2⟩:=hm (by intro e;rw [e] at hm';exact hm')
    obtain ⟨es,he,hl⟩:=hm2 sz es' he'
    rcases hd.2 n i j hm' with ⟨d1,d2⟩ | ⟨k,q1,q2⟩
    ·rw [d2];exact c2 d1 sz es he
    ·have:=c1 k q1
     omega
theorem RRs.ext {w w':World} {W W':Wit} {L L':Nat→Option Obj} (hF:∀t b,W.F (tg t) b→W'.F (tg t) b∧w'.heap[b]?=w.heap[b]?) (hE:Ext L W L' W') (hD:TrK w w' W W') {rs:List RV} {vs:List Value}
 (h:RRs w W L rs vs):RRs w' W' L' rs vs:=by
 induction h with
 | nil=>exact .nil
 | cons h _ ih=>exact .cons (h.ext hF hE hD) ih
theorem Dy.ext {w w':World} {W W':Wit} {L L':Nat→Option Obj} (hF:∀t b,W.F (tg t) b→W'.F (tg t) b∧w'.heap[b]?=w.heap[b]?) (hE:Ext L W L' W') (hD:TrK w w' W W') {x:Bool×List RV} {v:Value}
 (h:Dy w W L x v):Dy w' W' L' x v:=by
 rcases h with ⟨h1,vs,rfl,h2⟩ | ⟨h1,r,h2,h3⟩
 ·exact .inl ⟨h1,vs,rfl,h2.ext hF hE hD⟩
 ·exact .inr ⟨h1,r,h2,h3.ext hF hE hD⟩
theorem sV.ext {w w':World} {W W':Wit} {L L':Nat→Option Obj} (hF:∀t b,W.F (tg t) b→W'.F (tg t) b∧w'.heap[b]?=w.heap[b]?) (hE:Ext L W L' W') (hD:TrK w w' W W') {xs:List (Bool×List RV)} {vs:List Value}
 (h:sV w W L xs vs):sV w' W' L' xs vs:=by
 induction h with
 | nil=>exact .nil
 | cons h _ ih=>exact .cons (h.ext hF hE hD) ih
theorem SR.ext {w w':World} {W W':Wit} {L L':Nat→Option Obj} (hF:∀t b,W.F (tg t) b→W'.F (tg t) b∧w'.heap[b]?=w.heap[b]?) (hE:Ext L W L' W') (hD:TrK w w' W W') {x:SV} {v:Value}
 (h:SR w W L x v):SR w' W' L' x v:=by
 cases x with
 | v ag cs=>exact Dy.ext hF hE hD h
 | fn f cs=>obtain ⟨vs,rfl,h⟩:=h;exact ⟨vs,rfl,h.ext hF hE hD⟩
 | tup xs=>obtain ⟨vs,rfl,h⟩:=h;exact ⟨vs,rfl,h.ext hF hE hD⟩
def Par (L:Nat→Option Obj) (W:Wit) (L':Nat→Option Obj) (W':Wit):Prop:=
 ∀o ob',L' o=some ob'→ob'.io=true→∃ob,L o=some ob∧ob.io=true∧ob'.mem=ob.mem∧W'.blk o=W.blk o∧(ob.mem=false→W'.vals o=W.vals o)
omit [Lim] in
theorem Par.same {L:Nat→Option Obj} {W W':Wit} (hv:∀o,W'.vals o=W.vals o) (hb:∀o,W'.blk o=W.blk o):Par L W L W':=
 fun o ob h hi=>⟨ob,h,hi,rfl,hb o,fun _=>hv o⟩
omit [Lim] in
theorem Par.set {st:St} {W W':Wit} {o:Nat} {ob ob':Obj} (hL:st.L o=some ob) (hi:ob'.io=ob.io) (hm:ob'.mem=ob.mem) (hb:∀o,W'.blk o=W.blk o)
 (hv:∀o',o'≠o∨ob.mem=false→W'.vals o'=W.vals o'):Par st.L W (st.setObj o ob').L W':=by
 intro o' x hx hio
 by_cases e:o'=o
 ·subst e
  simp only [St.setObj,upd_same,Option.some.injEq] at hx
  subst hx
  exact ⟨ob,hL,hi.symm.trans hio,hm,hb _,fun h=>hv _ (.inr h)⟩
 ·simp only [St.setObj,upd_ne _ _ e] at hx
  exact ⟨x,hx,hio,rfl,hb _,fun _=>hv _ (.inl e)⟩
theorem Rel.step (h:Rel B st a w W) {L':Nat→Option Obj} {w':World} (hio:w'.os=w.os∧w'.output=w.output) {W':Wit} (hF:∀t b,W.F t b→W'.F t b) (h01:∀b,W'.F 0 b→W'.F 1 b) (h12:∀b,W'.F 1 b→W'.F 2 b)
 (hnew:∀t b,W'.F t b→W.F t b∨B.w0.heap.size≤b∨B.iZ b) (hown:∀b,W'.F 2 b→W'.own b=none) (anG:∀b,W'.F 2 b→b<w'.heap.size)
 (anH:∀b x,W'.own b=some x→b<w'.heap.size∧(B.w0.heap.size≤b∨B.iZ b)) (hw:∀b,W.F 2 b→w'.heap[b]?=w.heap[b]?) (hE:Ext st.L W L' W') (SG:Par st.L W L' W')
 (iq:∀o ob,L' o=some ob→Jq w' W' o ob) (hframe:∀b,b<B.w0.heap.size→¬B.iZ b→w'.heap[b]?=w.heap[b]?) (hsize:w.heap.size≤w'.heap.size) (hD:TrK w w' W W') (huf:∀b,W'.F 2 b→W.F 2 b∨Dx w' b) (hou:∀b x,W'.own b=some x→((∃y,W.own b=some y)∧MC (w.heap[b]?) (w'.heap[b]?))∨Dx w' b):
 Rel B {st with L:=L'} a w' W':=
 {f01:=h01,f12:=h12,fb:=fun t b hb=>hF t b (h.fb t b hb)
  I9:=fun t b hb=>by
   rcases hnew t b hb with h1 | h1
   ·exact h.I9 t b h1
   ·exact .inr h1
  qF:=hown,flt:=anG,olt:=anH,iJ:=iq
  par:=fun o ob hL hi=>by
   obtain ⟨ob0,h1,h2,h3,h4,h5⟩:=SG o ob hL hi
   obtain ⟨h6,h7⟩:=h.par o ob0 h1 h2
   exact ⟨h4.trans h6,fun hm=>(h5 (h3 ▸ hm)).trans (h7 (h3 ▸ hm))⟩
  slots:=fun t=>(h.slots t).ext (fun t b hb=>⟨hF _ b hb,hw b (h.f2 hb)⟩) hE hD
  frame:=fun b hb hl=>(hframe b hb hl).trans (h.frame b hb hl)
  size:=Nat.le_trans h.size hsize,io:=⟨hio.1.trans h.io.1,hio.2.trans h.io.2⟩,defers:=h.defers,tmps:=h.tmps
  uf:=fun b hb=>by
   rcases huf b hb with h1 | h1
   ·rcases h.uf b h1 with h3 | ⟨arr,T,fr,h3,h4⟩
    ·exact .inl h3
    ·exact .inr ⟨arr,T,fr,(hw b h1).trans h3,h4⟩
   ·exact .inr h1
  ouf:=fun b x hb=>by
   rcases hou b x hb with ⟨⟨y,h1⟩,h3⟩ | h1
   ·exact (h.ouf b y h1).shp h3
   ·exact h1
  tsh:=fun b hb=>by
   obtain ⟨h1,h3⟩:=h.tsh b hb
   obtain ⟨h4,h5⟩:=hD.2 b h1
   exact ⟨h4,h3.trans h5⟩}
theorem Jq.keep {w w':World} {W W':Wit} {o:Nat} {ob:Obj} (h:Jq w W o ob) (hF:∀t b,W.F (tg t) b→W'.F (tg t) b∧w'.heap[b]?=w.heap[b]?)
 (hv:W'.vals o=W.vals o) (hb:W'.blk o=W.blk o) (hp:∀c,W'.fp o c=W.fp o c) (hu:∀c,W'.us o c=W.us o c)
 (hc:∀c b,W.own b=some (.cell o c)→W'.own b=some (.cell o c)∧w'.heap[b]?=w.heap[b]?)
 (hr:ob.mem=true→w'.heap[W.blk o]?=w.heap[W.blk o]?∧(ob.fz=false→W'.own (W.blk o)=some (.root o))) (hD:TrK w w' W W'):Jq w' W' o ob:=
 {len:=by rw [hv];exact h.len
  cells:=fun c x v hx hvx=>by
   rw [hv] at hvx
   have:=h.cells c x v hx hvx
   obtain ⟨m,s,t,y⟩:=x
   cases m with
   | imm=>exact CRi.mono (fun b hb=>hF _ b hb) this
   | gone=>trivial
   | ws=>exact CRs.mono (fun b hb=>hD.2 b hb) this
   | fr=>exact CRi.mono (fun b hb=>hD.1 b hb) this
   | sh=>
    cases y with
    | row sz es=>
     obtain ⟨h1,h2⟩:=this
     refine ⟨?_,fun b hb=>?_⟩
     ·rw [hp]
      exact h1.mono (fun b hb=>hF _ b hb) fun b hb=>(hc c b (h2 b hb)).2
     ·rw [hp] at hb
      exact (hc c b (h2 b hb)).1
    | _=>exact this.elim
   | dp n=>
    cases y with
    | row sz es=>
     obtain ⟨bs,h1,h2,h3⟩:=this
     exact ⟨bs,by rw [hu];exact h1.mono (fun b hb=>hF _ b hb) fun b hb=>(hc c b (h3 b hb)).2,h2,fun b hb=>(hc c b (h3 b hb)).1⟩
    | _=>exact this.elim
   | dd n i j=>
    cases y with
    | row sz es=>
     obtain ⟨bs,h1,h2,h3⟩:=this
     exact ⟨bs,by rw [hu];exact h1.mono (fun b hb=>hF _ b hb) fun b hb=>(hc c b (h3 b hb)).2,h2,fun b hb=>(hc c b (h3 b hb)).1⟩
    | _=>exact this.elim
  mem:=fun hm=>by
   obtain ⟨arr,T,fr,h1,h2,h3,h4,h5⟩:=h.mem hm
   obtain ⟨h6,h7⟩:=hr hm
   exact ⟨arr,T,fr,by rw [hb,h6];exact h1,by rw [hv];exact h2,h3,fun hf=>by rw [hb];exact h7 hf,fun hf=>by rw [hb];exact (hF 0 _ (h5 hf)).1⟩
  fz:=h.fz,ctr:=h.ctr}
theorem ZL (h:Rel B st a w W) (x:Bool):∃W',Rel B (st.shut x) a w W':=by
 cases x with
 | false=>exact ⟨W,h⟩
 | true=>
  let W':Wit:={W with own:=fun b=>match W.own b with | some (nD.tr _)=>some (nD.tr true) | x=>x}
  have h1:∀b x,W.own b=some (.tr x)→W'.own b=some (.tr true):=by
   intro b x hb
   show (match W.own b with | some (nD.tr _)=>some (nD.tr true) | x=>x)=_
   rw [hb]
  have h2:∀b y,W.own b=some y→(∀x,y≠ .tr x)→W'.own b=some y:=by
   intro b y hb hy
   show (match W.own b with | some (nD.tr _)=>some (nD.tr true) | x=>x)=_
   rw [hb]
   cases y with
   | tr x=>exact absurd rfl (hy x)
   | _=>rfl
  have h3:∀b,W.own b=none→W'.own b=none:=by
   intro b hb
   show (match W.own b with | some (nD.tr _)=>some (nD.tr true) | x=>x)=_
   rw [hb]
  have h4:∀b y,W'.own b=some y→∃z,W.own b=some z:=by
   intro b y hb
   cases hx:W.own b with
   | none=>rw [h3 b hx] at hb;cases hb
   | some z=>exact ⟨z,rfl⟩
  have hE:Ext st.L W (st.shut true).L W:=by
   intro o ob hL
   refine ⟨ob.shut,by show (st.L o).map _=_;rw [hL];rfl,Nat.le_refl _,Nat.le_refl _,fun c x' hx'=> .inr ?_,fun _=>⟨rfl,rfl⟩⟩
   have hx':(ob.cs.map fun x=>({x with m:=x.m.shut}:Cell))[c]?=some x':=hx'
   rw [List.getElem?_map] at hx'
   obtain ⟨x,hx,rfl⟩:=Option.map_eq_some_iff.1 hx'
   refine ⟨x,hx,rfl,rfl,fun hm=>⟨fun e=>hm (by show x.m.shut=_;rw [e];rfl),fun sz es he=>⟨es,he,rfl⟩⟩,?_⟩
   show qG x.m x.m.shut _
   cases x.m<;>first | exact qG.same rfl | exact qG.none rfl
  have rr:∀{r:RV} {v:Value},RR w W st.L r v→RR w W' (st.shut true).L r.shut v:=by
   intro r v hr
   replace hr:RR w W (st.shut true).L r v:=hr.ext (fun _ _ hb=>⟨hb,rfl⟩) hE (TrK.refl w W)
   cases r with
   | fr y=>
    have hr:CRi w (fun b=>W.own b=some (.tr false)) [y] [v]:=hr
    exact CRi.shape (fun b hb=>h1 b _ hb) hr
   | ws y=>
    have hr:CRs w (fun b=>W.own b=some (.tr true)) [y] [v]:=hr
    exact hr.mono fun b hb=>⟨h1 b _ hb,.inl rfl⟩
   | _=>exact hr
  have rrs:∀{rs:List RV} {vs:List Value},RRs w W st.L rs vs→RRs w W' (st.shut true).L (rs.map RV.shut) vs:=by
   intro rs vs hr
   induction hr with
   | nil=>exact .nil
   | cons h1 _ ih=>exact .cons (rr h1) ih
  have comp:∀{x:Bool×List RV} {v:Value},Dy w W st.L x v→Dy w W' (st.shut true).L (x.1,x.2.map RV.shut) v:=by
   rintro x v (⟨h1,vs,rfl,h2⟩ | ⟨h1,r,h2,h3⟩)
   ·exact .inl ⟨h1,vs,rfl,rrs h2⟩
   ·exact .inr ⟨h1,r.shut,by rw [h2];rfl,rr h3⟩
  refine ⟨W',{f01:=h.f01,f12:=h.f12,fb:=h.fb,I9:=h.I9,qF:=fun b hb=>h3 b (h.qF b hb),flt:=h.flt,olt:=fun b y hb=>?_,iJ:=fun o ob hL=>?_,slots:=fun t=>?_,frame:=h.frame,size:=h.size,io:=h.io,par:=fun o ob hL hi=>?_,defers:=h.defers,tmps:=h.tmps,uf:=h.uf,ouf:=fun b y hb=>?_,tsh:=fun b hb=>⟨h1 b _ (h.tsh b hb).1,(h.tsh b hb).2⟩}⟩
  ·obtain ⟨z,hz⟩:=h4 b y hb
   exact h.olt b z hz
  ·have hL:(st.L o).map Obj.shut=some ob:=hL
   obtain ⟨ob,hL0,rfl⟩:=Option.map_eq_some_iff.1 hL
   have ho:=h.iJ o ob hL0
   refine {len:=by rw [show ob.shut.cs.length=ob.cs.length from List.length_map _];exact ho.len,cells:=fun c x v hx hv=>?_,mem:=fun hm=>?_,fz:=fun hf x hx=>?_,ctr:=fun x hx=>?_}
   ·have hx:(ob.cs.map fun x=>({x with m:=x.m.shut}:Cell))[c]?=some x:=hx
    rw [List.getElem?_map] at hx
    obtain ⟨x,hx0,rfl⟩:=Option.map_eq_some_iff.1 hx
    have:=ho.cells c x v hx0 hv
    obtain ⟨m,s,t,y⟩:=x
    cases m with
    | imm=>exact this
    | gone=>trivial
    | ws=>exact CRs.mono (fun b hb=>⟨h1 b _ hb,.inl rfl⟩) this
    | fr=>exact CRi.shape (fun b hb=>h1 b _ hb) (show CRi w (fun b=>W.own b=some (.tr false)) [y] [v] from this)
    | sh=>
     cases y with
     | row sz es=>exact ⟨this.1,fun b hb=>h2 b _ (this.2 b hb) (fun x e=>by cases e)⟩
     | _=>exact this.elim
    | dp n=>
     cases y with
     | row sz es=>
      obtain ⟨bs,k1,k2,k3⟩:=this
      exact ⟨bs,k1,k2,fun b hb=>h2 b _ (k3 b hb) (fun x e=>by cases e)⟩
     | _=>exact this.elim
    | dd n i j=>
     cases y with
     | row sz es=>
      obtain ⟨bs,k1,k2,k3⟩:=this
      exact ⟨bs,k1,k2,fun b hb=>h2 b _ (k3 b hb) (fun x e=>by cases e)⟩
     | _=>exact this.elim
   ·obtain ⟨arr,T,fr,k1,k2,k3,k4,k5⟩:=ho.mem hm
    exact ⟨arr,T,fr,k1,k2,k3,fun hf=>h2 _ _ (k4 hf) (fun x e=>by cases e),k5⟩
   ·obtain ⟨y,hy,rfl⟩:=List.mem_map.1 hx
    rcases ho.fz hf y hy with e | e
    ·exact .inl (by show y.m.shut=_;rw [e];rfl)
    ·exact .inr (by show y.m.shut=_;rw [e];rfl)
   ·obtain ⟨y,hy,rfl⟩:=List.mem_map.1 hx
    exact ho.ctr y hy
  ·have hs:=h.slots t
   show SR w W' (st.shut true).L (st.sl t).shut _
   cases hx:st.sl t with
   | v ag cs=>rw [hx] at hs;exact comp hs
   | fn f cs=>
    rw [hx] at hs
    obtain ⟨vs,k1,k2⟩:=hs
    exact ⟨vs,k1,rrs k2⟩
   | tup xs=>
    rw [hx] at hs
    obtain ⟨vs,k1,k2⟩:=hs
    refine ⟨vs,k1,?_⟩
    have:∀{xs:List (Bool×List RV)} {us:List Value},sV w W st.L xs us→sV w W' (st.shut true).L (xs.map fun v=>(v.1,v.2.map RV.shut)) us:=by
     intro xs us hc
     induction hc with
     | nil=>exact .nil
     | cons h1 _ ih=>exact .cons (comp h1) ih
    exact this k2
  ·have hL:(st.L o).map Obj.shut=some ob:=hL
   obtain ⟨ob,hL0,rfl⟩:=Option.map_eq_some_iff.1 hL
   exact h.par o ob hL0 hi
  ·obtain ⟨z,hz⟩:=h4 b y hb
   exact h.ouf b z hz
end
end Go.Sim
