/- New memory, memory that is written, objects that are made: the laws by which the relation goes on. Conditions: none. -/
import Derived.Test.YtngbehdgjocndaaGreatSimF
namespace Go.Sim
variable [Lim]
open Classical
set_option linter.unusedSimpArgs false
set_option linter.unusedVariables false
noncomputable section
section
variable {P:Program} {B:Base} {st:St} {a:Act} {w:World} {W:Wit}
def Wit.give (W:Wit) (b0:Nat) (x:nD):Wit:={W with own:=fun b=>if b=b0 then some x else W.own b}
omit [Lim] in
theorem Eh (W:Wit) (b:Nat) (x:nD):(W.give b x).own b=some x:=by simp [Wit.give]
omit [Lim] in
theorem BD (W:Wit) {b b0:Nat} (x:nD) (h:b≠b0):(W.give b0 x).own b=W.own b:=by simp [Wit.give,h]
omit [Lim] in
theorem wC {w:World} {o:Go.Obj} {b:Nat} (h:b<w.heap.size):(w.heap.push o)[b]?=w.heap[b]?:=by
 rw [Array.getElem?_push]
 split
 ·omega
 ·rfl
omit [Lim] in
theorem Ei {w:World} {o:Go.Obj}:(w.heap.push o)[w.heap.size]?=some o:=by simp
theorem Rel.push (h:Rel B st a w W) (o:Go.Obj) (x:nD) (ho:∃arr T fr,o= .cells arr T fr∧∀i<arr.size,¬(fr.1≤i∧i<fr.2):=by exact ⟨_,_,(0,0),rfl,fun i _=>by omega⟩):Rel B st a {w with heap:=w.heap.push o} (W.give w.heap.size x):=by
 have hlt:∀b y,W.own b=some y→(W.give w.heap.size x).own b=some y∧(w.heap.push o)[b]?=w.heap[b]?:=fun b y hb=>by
  have:=(h.olt b y hb).1
  exact ⟨by rw [BD _ _ (by omega)];exact hb,by rw [Array.getElem?_push];split<;>first | omega | rfl⟩
 have hF:∀t b,W.F (tg t) b→W.F (tg t) b∧(w.heap.push o)[b]?=w.heap[b]?:=fun t b hb=>⟨hb,by
  have:=h.flt b (h.f2 hb)
  rw [Array.getElem?_push];split<;>first | omega | rfl⟩
 have hD:TrK w {w with heap:=w.heap.push o} W (W.give w.heap.size x):=TrK.of fun y b hb=>hlt b _ hb
 have:=h.step (hio:=⟨rfl,rfl⟩) (L':=st.L) (w':={w with heap:=w.heap.push o}) (W':=W.give w.heap.size x) (fun _ _ hb=>hb) h.f01 h.f12 (fun _ _ hb=> .inl hb) ?_ ?_ ?_ ?_ ?_ (Par.same (fun _=>rfl) fun _=>rfl) ?_ ?_ ?_ hD (fun b hb=> .inl hb) (fun b y hb=>by
  by_cases e:b=w.heap.size
  ·obtain ⟨arr,T,fr,rfl,h2⟩:=ho
   exact .inr ⟨arr,T,fr,by rw [e];exact Ei,h2⟩
  ·rw [BD _ _ e] at hb
   exact .inl ⟨⟨y,hb⟩,.inl (hlt b y hb).2⟩)
 ·exact this
 ·intro b hb
  have hl:=h.flt b hb
  rw [BD _ _ (by omega)];exact h.qF b hb
 ·intro b hb
  have hl:=h.flt b hb
  simp;omega
 ·intro b y hb
  by_cases e:b=w.heap.size
  ·subst e;simp;exact .inl h.size
  ·rw [BD _ _ e] at hb
   have:=h.olt b y hb
   simp;exact ⟨by omega,this.2⟩
 ·intro b hb
  exact (hF 2 b hb).2
 ·intro o' ob hL
  exact ⟨ob,hL,Nat.le_refl _,Nat.le_refl _,fun _ y hy=> .inr ⟨y,hy,rfl,rfl,fun hm=>⟨hm,fun _ es he=>⟨es,he,rfl⟩⟩,qG.same rfl⟩,fun _=>⟨rfl,rfl⟩⟩
 ·intro o' ob hL
  refine (h.iJ o' ob hL).keep hF rfl rfl (fun _=>rfl) (fun _=>rfl) (fun c b hb=>hlt b _ hb) (fun hm=>?_) hD
  obtain ⟨arr,T,fr,h1,h2,h3,h4,h5⟩:=(h.iJ o' ob hL).mem hm
  refine ⟨?_,fun hf=>(hlt _ _ (h4 hf)).1⟩
  have hl:W.blk o'<w.heap.size:=by
   rcases Nat.lt_or_ge (W.blk o') w.heap.size with h' | h'
   ·exact h'
   ·rw [Array.getElem?_eq_none h'] at h1;cases h1
  show (w.heap.push o)[W.blk o']?=_
  rw [Array.getElem?_push];split<;>first | omega | rfl
 ·intro b hb hl
  have:=h.size
  show (w.heap.push o)[b]?=_
  rw [Array.getElem?_push];split<;>first | omega | rfl
 ·simp
theorem Rel.write (h:Rel B st a w W) {b0 k:Nat} (hown:W.own b0=some (.det k)) {w':World} (hb0:Dx w' b0) (hio:w'.os=w.os∧w'.output=w.output) (hs:w'.heap.size=w.heap.size) (hne:∀b,b≠b0→w'.heap[b]?=w.heap[b]?):Rel B st a w' W:=by
 have hF:∀t b,W.F (tg t) b→W.F (tg t) b∧w'.heap[b]?=w.heap[b]?:=fun t b hb=>⟨hb,hne b fun e=>by
  have:=h.qF b (h.f2 hb)
  rw [e,hown] at this;cases this⟩
 have hcl:∀b y,W.own b=some y→(∀j,y≠ .det j)→W.own b=some y∧w'.heap[b]?=w.heap[b]?:=fun b y hb hy=>⟨hb,hne b fun e=>by
  rw [e,hown] at hb
  cases hb
  exact hy k rfl⟩
 have hD:TrK w w' W W:=TrK.of fun y b hb=>hcl b _ hb fun j e=>by cases e
 have:=h.step (hio:=hio) (L':=st.L) (w':=w') (W':=W) (fun _ _ hb=>hb) h.f01 h.f12 (fun _ _ hb=> .inl hb) h.qF (fun b hb=>by rw [hs];exact h.flt b hb) (fun b y hb=>by rw [hs];exact h.olt b y hb)
  (fun b hb=>(hF 2 b hb).2) (Ext.refl _ _) (Par.same (fun _=>rfl) fun _=>rfl) ?_ ?_ (by omega) hD (fun b hb=> .inl hb) (fun b y hb=>by
    by_cases e:b=b0
    ·subst e;exact .inr hb0
    ·exact .inl ⟨⟨y,hb⟩,.inl (hne b e)⟩)
 ·exact this
 ·intro o' ob hL
  refine (h.iJ o' ob hL).keep hF rfl rfl (fun _=>rfl) (fun _=>rfl) (fun c b hb=>hcl b _ hb fun j e=>by cases e) (fun hm=>?_) hD
  obtain ⟨arr,T,fr,h1,h2,h3,h4,h5⟩:=(h.iJ o' ob hL).mem hm
  refine ⟨?_,h4⟩
  cases hf:ob.fz
  ·exact (hcl _ _ (h4 hf) fun j e=>by cases e).2
  ·exact (hF 0 _ (by simpa [tg] using h5 hf)).2
 ·intro b hb hl
  refine hne b fun e=>?_
  rcases (h.olt b0 _ hown).2 with h1 | h1
  ·omega
  ·rw [e] at hl;exact hl h1
def kL (w:World) (W:Wit) (k:Nat) (xs:List CV) (us:List Value):Prop:=
 xs.length=us.length∧∀(i:Nat) x v,xs[i]?=some x→us[i]?=some v→mg w W (k+i) x v
theorem kL.nil {k:Nat}:kL w W k [] []:=⟨rfl,fun i x v hx=>by simp at hx⟩
theorem kL.cons {k:Nat} {x:CV} {xs:List CV} {v:Value} {us:List Value} (h:mg w W k x v) (h':kL w W (k+1) xs us):kL w W k (x::xs) (v::us):=by
 refine ⟨by simp [h'.1],fun i y u hy hu=>?_⟩
 cases i with
 | zero=>simp at hy hu;subst hy hu;exact h
 | succ i=>
  have:=h'.2 i y u (by simpa using hy) (by simpa using hu)
  rwa [show k+(i+1)=k+1+i by omega]
theorem kL.step {w':World} {W':Wit} {k:Nat} {xs:List CV} {us:List Value} (h:kL w W k xs us) (hF:∀t b,W.F (tg t) b→W'.F (tg t) b∧w'.heap[b]?=w.heap[b]?)
 (hd:∀b j,W.own b=some (.det j)→W'.own b=some (.det j)∧w'.heap[b]?=w.heap[b]?) (hD:TrK w w' W W'):kL w' W' k xs us:=
 ⟨h.1,fun i x v hx hv=>(h.2 i x v hx hv).step hF (fun b hb=>hd b _ hb) hD⟩
def mkObj (st:St) (d:Nat) (mem ag:Bool) (cs:List CV):Obj:=
 {gen:=match st.L d with | some ob=>ob.gen+1 | none=>0
  ctr:=match st.L d with | some ob=>ob.ctr+1 | none=>0
  io:=false,mem,fz:=false,ag,cs:=cs.map (CV.at (match st.L d with | some ob=>ob.ctr+1 | none=>0))}
omit [Lim] in
theorem Ad (st:St) (d:Nat) (mem ag:Bool) (cs:List CV):(st.newObj d mem ag cs).1.L d=some (mkObj st d mem ag cs):=by
 simp only [St.newObj,upd_same];rfl
theorem kL.choose {k:Nat} {xs:List CV} {us:List Value} (h:kL w W k xs us):∃(fpn:Nat→Option Nat) (usn:Nat→List Value),∀c x v,xs[c]?=some x→us[c]?=some v→
 (x.m= .sh→∃sz es,x.a= .row sz es∧kJ w (W.F (tg x.t)) sz es v (fpn c)∧∀b,fpn c=some b→W.own b=some (.det (k+c)))∧
 (∀n,x.m= .dp n→∃sz es bs,x.a= .row sz es∧Deep w (W.F (tg x.t)) none sz es v (usn c) bs∧bs.Nodup∧∀b∈bs,W.own b=some (.det (k+c))):=by
 obtain ⟨hlen,zl⟩:=h
 have hch:∀c,∃p:Option Nat×List Value,∀x v,xs[c]?=some x→us[c]?=some v→
  (x.m= .sh→∃sz es,x.a= .row sz es∧kJ w (W.F (tg x.t)) sz es v p.1∧∀b,p.1=some b→W.own b=some (.det (k+c)))∧
  (∀n,x.m= .dp n→∃sz es bs,x.a= .row sz es∧Deep w (W.F (tg x.t)) none sz es v p.2 bs∧bs.Nodup∧∀b∈bs,W.own b=some (.det (k+c))):=by
  intro c
  cases hx:xs[c]? with
  | none=>exact ⟨(none,[]),fun x v hx'=>by cases hx'⟩
  | some x=>
   cases hv:us[c]? with
   | none=>exact ⟨(none,[]),fun x v _ hv'=>by cases hv'⟩
   | some v=>
    have hx':=zl c x v hx hv
    obtain ⟨m,t,y⟩:=x
    cases m with
    | sh=>
     obtain ⟨sz,es,ob,h1,h2,h3⟩:=hx'
     exact ⟨(ob,[]),fun x v hx hv=>by cases hx;cases hv;exact ⟨fun _=>⟨sz,es,h1,h2,h3⟩,fun n e=>by cases e⟩⟩
    | dp n=>
     obtain ⟨sz,es,us',bs,h1,h2,h3,h4⟩:=hx'
     exact ⟨(none,us'),fun x v hx hv=>by cases hx;cases hv;exact ⟨(fun e=>by cases e),fun n e=>⟨sz,es,bs,h1,h2,h3,h4⟩⟩⟩
    | imm=>exact ⟨(none,[]),fun x v hx hv=>by cases hx;exact ⟨(fun e=>by cases e),fun n e=>by cases e⟩⟩
    | gone=>exact ⟨(none,[]),fun x v hx hv=>by cases hx;exact ⟨(fun e=>by cases e),fun n e=>by cases e⟩⟩
    | dd n i j=>exact ⟨(none,[]),fun x v hx hv=>by cases hx;exact ⟨(fun e=>by cases e),fun n e=>by cases e⟩⟩
    | ws=>exact ⟨(none,[]),fun x v hx hv=>by cases hx;exact ⟨(fun e=>by cases e),fun n e=>by cases e⟩⟩
    | fr=>exact ⟨(none,[]),fun x v hx hv=>by cases hx;exact ⟨(fun e=>by cases e),fun n e=>by cases e⟩⟩
 obtain ⟨p,hp⟩:=Classical.skolem.1 hch
 exact ⟨fun c=>(p c).1,fun c=>(p c).2,hp⟩
theorem Ej (h:Rel B st a w W) {d:Nat} {mem ag:Bool} {k:Nat} {xs:List CV} {us:List Value} (hd:kL w W k xs us)
 {b0:Nat} (hm:mem=true→W.own b0=some (.root d)∧∃T fr,w.heap[b0]?=some (.cells us.toArray T fr)∧∀i<us.length,¬(fr.1≤i∧i<fr.2)):
 ∃W',Rel B (st.newObj d mem ag xs).1 a w W'∧Ext st.L W (st.newObj d mem ag xs).1.L W'∧W'.F=W.F∧W'.vals d=us∧(mem=true→W'.blk d=b0)∧
  (∀b j,j<k∨k+xs.length≤j→W.own b=some (.det j)→W'.own b=some (.det j))∧(∀b x,W.own b=some (.tr x)→W'.own b=some (.tr x)):=by
 obtain ⟨hlen,zl⟩:=hd
 obtain ⟨fpn,usn,hfp⟩:=kL.choose ⟨hlen,zl⟩
 let W':Wit:=
  {F:=W.F
   vals:=fun o=>if o=d then us else W.vals o
   blk:=fun o=>if o=d then b0 else W.blk o
   fp:=fun o c=>if o=d then fpn c else W.fp o c
   us:=fun o c=>if o=d then usn c else W.us o c
   own:=fun b=>match W.own b with
    | some (.det j)=>if k≤j∧j<k+xs.length then some (.cell d (j - k)) else some (.det j)
    | x=>x}
 have hown:∀b x,W.own b=some x→(∀j,x≠ .det j)→W'.own b=some x:=by
  intro b x hb hx
  show (match W.own b with | some (.det j)=>_ | x=>x)=_
  rw [hb]
  cases x with
  | det j=>exact absurd rfl (hx j)
  | _=>rfl
 have hown2:∀b c,c<xs.length→W.own b=some (.det (k+c))→W'.own b=some (.cell d c):=by
  intro b c hc hb
  show (match W.own b with | some (.det j)=>_ | x=>x)=_
  rw [hb]
  simp only
  rw [if_pos (by omega)]
  congr 2
  omega
 have hown3:∀b x,W'.own b=some x→∃y,W.own b=some y:=by
  intro b x hb
  cases hb':W.own b with
  | none=>
   have:W'.own b=none:=by
    show (match W.own b with | some (.det j)=>_ | x=>x)=_
    rw [hb']
   rw [this] at hb;cases hb
  | some y=>exact ⟨y,rfl⟩
 have hnone:∀b,W.own b=none→W'.own b=none:=by
  intro b hb
  show (match W.own b with | some (.det j)=>_ | x=>x)=_
  rw [hb]
 have hLd:∀o,o≠d→(st.newObj d mem ag xs).1.L o=st.L o:=fun o ho=>by simp only [St.newObj,upd_ne _ _ ho]
 have hE:Ext st.L W (st.newObj d mem ag xs).1.L W':=by
  intro o ob hL
  by_cases e:o=d
  ·subst e
   refine ⟨mkObj st o mem ag xs,Ad _ _ _ _ _,?_,?_,?_,?_⟩
   ·simp only [mkObj,hL];omega
   ·simp only [mkObj,hL];omega
   ·intro c x' hx'
    simp only [mkObj,List.getElem?_map] at hx'
    obtain ⟨x,hx,rfl⟩:=Option.map_eq_some_iff.1 hx'
    left
    simp only [CV.at,hL];omega
   ·intro hg
    simp only [mkObj,hL] at hg;omega
  ·refine ⟨ob,by rw [hLd o e];exact hL,Nat.le_refl _,Nat.le_refl _,fun c x hx=> .inr ⟨x,hx,rfl,?_,fun hm=>⟨hm,fun _ es he=>⟨es,he,rfl⟩⟩,qG.same (by show (if o=d then usn c else W.us o c)=_;rw [if_neg e])⟩,fun _=>⟨rfl,?_⟩⟩
   ·show (if o=d then us else W.vals o)[c]?=_
    rw [if_neg e]
   ·show (if o=d then b0 else W.blk o)=_
    rw [if_neg e]
 have hP:Par st.L W (st.newObj d mem ag xs).1.L W':=by
  intro o ob' hL hio
  by_cases e:o=d
  ·subst e
   rw [Ad] at hL
   cases hL
   cases hio
  ·rw [hLd o e] at hL
   exact ⟨ob',hL,hio,rfl,(by show (if o=d then b0 else W.blk o)=_;rw [if_neg e]),fun _=>by show (if o=d then us else W.vals o)=_;rw [if_neg e]⟩
 have hT:∀b x,W.own b=some (.tr x)→W'.own b=some (.tr x):=fun b x hb=>hown b _ hb fun j e=>by cases e
 have hD:TrK w w W W':=TrK.of fun x b hb=>⟨hT b x hb,rfl⟩
 refine ⟨W',?_,hE,rfl,?_,?_,?_,hT⟩
 ·have:=h.step (hio:=⟨rfl,rfl⟩) (L':=(st.newObj d mem ag xs).1.L) (w':=w) (W':=W') (fun _ _ hb=>hb) h.f01 h.f12 (fun _ _ hb=> .inl hb) (fun b hb=>hnone b (h.qF b hb)) h.flt ?_ (fun _ _=>rfl) hE hP ?_ (fun _ _ _=>rfl) (Nat.le_refl _) hD (fun b hb=> .inl hb) (fun b x hb=> .inl ⟨hown3 b x hb,.inl rfl⟩)
  ·exact this
  ·intro b x hb
   obtain ⟨y,hy⟩:=hown3 b x hb
   exact h.olt b y hy
  ·intro o ob hL
   by_cases e:o=d
   ·subst e
    rw [Ad] at hL
    cases hL
    refine {len:=?_,cells:=?_,mem:=?_,fz:=fun hf=>Bool.noConfusion hf,ctr:=?_}
    ·show (if o=o then us else W.vals o).length=_
     rw [if_pos rfl];simpa [mkObj] using hlen.symm
    ·intro c x' v hx' hv
     simp only [mkObj,List.getElem?_map] at hx'
     obtain ⟨x,hx,rfl⟩:=Option.map_eq_some_iff.1 hx'
     have hv':us[c]?=some v:=by
      have:(if o=o then us else W.vals o)[c]?=some v:=hv
      rwa [if_pos rfl] at this
     have hdx:=zl c x v hx hv'
     have hfx:=hfp c x v hx hv'
     have hc:c<xs.length:=by
      rcases Nat.lt_or_ge c xs.length with h' | h'
      ·exact h'
      ·rw [List.getElem?_eq_none h'] at hx;cases hx
     obtain ⟨m,t,y⟩:=x
     cases m with
     | imm=>exact hdx
     | gone=>exact hdx.elim
     | dd n i j=>exact hdx.elim
     | ws=>exact CRs.mono (fun b hb=>⟨hT b _ hb,.inl rfl⟩) hdx
     | fr=>exact CRi.mono (fun b hb=>⟨hT b _ hb,rfl⟩) hdx
     | dp n=>
      obtain ⟨sz,es,bs,he,h1,h2,h3⟩:=hfx.2 n rfl
      simp only at he;subst he
      have e1:W'.us o c=usn c:=by
       show (if o=o then usn c else W.us o c)=_
       rw [if_pos rfl]
      exact ⟨bs,by rw [e1];exact h1,h2,fun b hb=>hown2 b c hc (h3 b hb)⟩
     | sh=>
      obtain ⟨sz,es,he,h1,h2⟩:=hfx.1 rfl
      simp only at he;subst he
      have e1:W'.fp o c=fpn c:=by
       show (if o=o then fpn c else W.fp o c)=_
       rw [if_pos rfl]
      refine ⟨?_,fun b hb=>?_⟩
      ·rw [e1];exact h1
      ·rw [e1] at hb
       exact hown2 b c hc (h2 b hb)
    ·intro hmem
     obtain ⟨h1,T,fr,h2,h3⟩:=hm hmem
     have e1:W'.blk o=b0:=by
      show (if o=o then b0 else W.blk o)=_
      rw [if_pos rfl]
     have e2:W'.vals o=us:=by
      show (if o=o then us else W.vals o)=_
      rw [if_pos rfl]
     refine ⟨us.toArray,T,fr,by rw [e1];exact h2,by rw [e2],by simpa using h3,?_⟩
     refine ⟨fun _=>?_,fun hf=>Bool.noConfusion hf⟩
     rw [e1];exact hown _ _ h1 fun j e=>by cases e
    ·intro x' hx'
     simp only [mkObj,List.mem_map] at hx'
     obtain ⟨x,_,rfl⟩:=hx'
     exact Nat.le_refl _
   ·rw [hLd o e] at hL
    have e1:W'.vals o=W.vals o:=by
     show (if o=d then us else W.vals o)=_
     rw [if_neg e]
    have e2:W'.blk o=W.blk o:=by
     show (if o=d then b0 else W.blk o)=_
     rw [if_neg e]
    refine (h.iJ o ob hL).keep (fun _ _ hb=>⟨hb,rfl⟩) e1 e2 (fun c=>?_) (fun c=>?_) (fun c b hb=>⟨hown b _ hb (fun j e=>by cases e),rfl⟩) (fun hm'=>⟨rfl,fun hf=>?_⟩) hD
    ·show (if o=d then fpn c else W.fp o c)=_
     rw [if_neg e]
    ·show (if o=d then usn c else W.us o c)=_
     rw [if_neg e]
    ·obtain ⟨arr,T,fr,h1,h2,h3,h4,h5⟩:=(h.iJ o ob hL).mem hm'
     exact hown _ _ (h4 hf) fun j e=>by cases e
 ·show (if d=d then us else W.vals d)=us
  rw [if_pos rfl]
 ·intro _
  show (if d=d then b0 else W.blk d)=b0
  rw [if_pos rfl]
 ·intro b j hj hb
  show (match W.own b with | some (.det j)=>_ | x=>x)=_
  rw [hb]
  simp only
  rw [if_neg (by omega)]
theorem tY (h:Rel B st a w W) {d:Nat} (hd:d<B.nt) {k:Nat} {x:CV} {v:Value} (hx:mg w W k x v) (hm:x.m= .sh∨∃n,x.m= .dp n):
 ∃W',Rel B ((st.newObj d false false [x]).1.cZ d (.v false [.own d (st.newObj d false false [x]).2.2 0])) (a.put (some d) v) w W':=by
 obtain ⟨W',h1,h2,h3,h4,h5,h6,_⟩:=Ej h (d:=d) (mem:=false) (ag:=false) (k:=k) (xs:=[x]) (us:=[v]) (kL.cons hx kL.nil) (b0:=0) (fun hm=>Bool.noConfusion hm)
 refine ⟨W',h1.put hd (.inr ⟨rfl,_,rfl,?_⟩)⟩
 refine ⟨_,Ad _ _ _ _ _,Nat.le_refl _,fun y hy _=>?_⟩
 rw [h4];rfl
theorem Oq (h:Rel B st a w W) {d:Nat} (hd:d<B.nt) {ag:Bool} {k:Nat} {xs:List CV} {us:List Value} (hx:kL w W k xs us) (T:TypeId):
 ∃W',Rel B ((st.newObj d true ag xs).1.cZ d (.v false [.mp d (st.newObj d true ag xs).2.1 0])) (a.put (some d) (.pointer (some ⟨w.heap.size,0,none⟩)))
  {w with heap:=w.heap.push (.cells us.toArray T)} W':=by
 have hp:=h.push (.cells us.toArray T) (.root d)
 have hx':kL {w with heap:=w.heap.push (.cells us.toArray T)} (W.give w.heap.size (.root d)) k xs us:=hx.step
  (fun t b hb=>⟨hb,wC (h.flt b (h.f2 hb))⟩) (fun b j hb=>⟨by
    have:=(h.olt b _ hb).1
    rw [BD _ _ (by omega)];exact hb,wC (h.olt b _ hb).1⟩) (TrK.of fun x b hb=>⟨by
    have:=(h.olt b _ hb).1
    rw [BD _ _ (by omega)];exact hb,wC (h.olt b _ hb).1⟩)
 obtain ⟨W',h1,h2,h3,h4,h5,h6,_⟩:=Ej hp (d:=d) (mem:=true) (ag:=ag) hx' (b0:=w.heap.size) (fun _=>⟨Eh _ _ _,T,(0,0),Ei,fun i _=>by omega⟩)
 refine ⟨W',h1.put hd (.inr ⟨rfl,_,rfl,?_⟩)⟩
 refine ⟨_,Ad _ _ _ _ _,Nat.le_refl _,fun _=>⟨rfl,?_⟩⟩
 rw [h5 rfl]
theorem JD (h:Rel B st a w W) {sz t cap:Nat} {es:List AV} {us rest:List Value} (k:Nat) (T:TypeId) (hs:∀e∈es,e.cells.length=sz) (hc:CRi w (W.F (tg t)) (es.flatMap AV.cells) us)
 (hl:es.length≤cap) (hr:cap*sz≤(us++rest).length):
 Rel B st a {w with heap:=w.heap.push (.cells (us++rest).toArray T)} (W.give w.heap.size (.det k))∧
  mg {w with heap:=w.heap.push (.cells (us++rest).toArray T)} (W.give w.heap.size (.det k)) k ⟨.sh,t,.row sz es⟩ (.slice (some ⟨w.heap.size,0,none⟩) es.length cap):=by
 refine ⟨h.push _ _,sz,es,some w.heap.size,rfl,.inr ⟨w.heap.size,0,cap,(us++rest).toArray,T,(0,0),us,rest,rfl,rfl,Ei,fun i _=>by omega,hs,by simp,?_,hl,by simpa using hr⟩,fun b hb=>?_⟩
 ·exact hc.mono fun b hb=>⟨hb,wC (h.flt b (h.f2 hb))⟩
 ·cases hb;exact Eh _ _ _
omit [Lim] in
theorem Ext.trans {L1 L2 L3:Nat→Option Obj} {W1 W2 W3:Wit} (k3:Ext L1 W1 L2 W2) (l3:Ext L2 W2 L3 W3):Ext L1 W1 L3 W3:=by
 intro o ob hL
 obtain ⟨ob1,m1,m2,m3,m4,m5⟩:=k3 o ob hL
 obtain ⟨ob2,n1,n2,n3,n4,n5⟩:=l3 o ob1 m1
 refine ⟨ob2,n1,Nat.le_trans m2 n2,Nat.le_trans m3 n3,fun c x' hx'=>?_,fun hg=>?_⟩
 ·rcases n4 c x' hx' with h' | ⟨x1,p1,p2,p3,p4,p5⟩
  ·exact .inl (by omega)
  ·rcases m4 c x1 p1 with h' | ⟨x0,q1,q2,q3,q4,q5⟩
   ·exact .inl (by omega)
   ·refine .inr ⟨x0,q1,q2.trans p2,p3.trans q3,fun hm=>?_,q5.trans p5 fun d4 d2=>d2.trans d4⟩
    ·obtain ⟨hm1,hm2⟩:=p4 hm
     obtain ⟨hm3,hm4⟩:=q4 hm1
     refine ⟨hm3,fun sz es' he'=>?_⟩
     obtain ⟨es1,he1,hl1⟩:=hm2 sz es' he'
     obtain ⟨es0,he0,hl0⟩:=hm4 sz es1 he1
     exact ⟨es0,he0,hl0.trans hl1⟩
 ·obtain ⟨hg1,hg2⟩:=n5 (by omega)
  obtain ⟨hg3,hg4⟩:=m5 (by omega)
  exact ⟨hg1.trans hg3,hg2.trans hg4⟩
theorem zn:∀(rs:List RV) (vs:List Value) {st st':St} {W:Wit} {ks:List (Option Nat)} {xs:List CV} (k:Nat),Rel B st a w W→RRs w W st.L rs vs→st.fF ks rs=some (xs,st')→
 ∃W',Rel B st' a w W'∧st'.sl=st.sl∧Ext st.L W st'.L W'∧(∀t b,W.F t b→W'.F t b)∧Loose W W'∧kL w W' k xs vs
 | [],_,st,st',W,ks,xs,k,h,hr,e=>by
  simp only [St.fF,Option.some.injEq,Prod.mk.injEq] at e
  obtain ⟨rfl,rfl⟩:=e
  cases hr
  exact ⟨W,h,rfl,Ext.refl _ _,fun _ _ hb=>hb,Loose.refl W,kL.nil⟩
 | r::rs,_,st,st',W,ks,xs,k,h,hr,e=>by
  cases hr with
  | @cons _ _ v vs h1 h2=>
   simp only [St.fF] at e
   obtain ⟨⟨x,st1⟩,e1,e⟩:=Option.bind_eq_some_iff.1 e
   obtain ⟨⟨ys,st2⟩,e2,e⟩:=Option.map_eq_some_iff.1 e
   cases e
   obtain ⟨W1,k1,k2,k3,k4,k5,k6⟩:=zM h h1 e1 k
   have h2':RRs w W1 st1.L rs vs:=h2.ext (fun t b hb=>⟨k4 _ _ hb,rfl⟩) k3 (TrK.loose k5)
   obtain ⟨W2,l1,l2,l3,l4,l5,l6⟩:=zn rs vs (k+1) k1 h2' e2
   refine ⟨W2,l1,l2.trans k2,k3.trans l3,fun t b hb=>l4 t b (k4 t b hb),k5.trans l5,kL.cons (k6.step (fun t b hb=>⟨l4 _ _ hb,rfl⟩) (fun b hb=>⟨l5 b _ rfl hb,rfl⟩) (TrK.loose l5)) l6⟩
theorem BR:∀(rs:List RV) (vs:List Value) {st st':St} {W:Wit} {ks:List (Option Nat)} {t:Nat} {ys:List AV},Rel B st a w W→RRs w W st.L rs vs→st.iM ks rs=some (t,ys,st')→
 ∃W',Rel B st' a w W'∧st'.sl=st.sl∧Ext st.L W st'.L W'∧(∀t b,W.F t b→W'.F t b)∧Loose W W'∧CRi w (W'.F (tg t)) ys vs
 | [],_,st,st',W,ks,t,ys,h,hr,e=>by
  simp only [St.iM,Option.some.injEq,Prod.mk.injEq] at e
  obtain ⟨rfl,rfl,rfl⟩:=e
  cases hr
  exact ⟨W,h,rfl,Ext.refl _ _,fun _ _ hb=>hb,Loose.refl W,.nil⟩
 | r::rs,_,st,st',W,ks,t,ys,h,hr,e=>by
  cases hr with
  | @cons _ _ v vs h1 h2=>
   simp only [St.iM] at e
   obtain ⟨⟨t1,y1,st1⟩,e1,e⟩:=Option.bind_eq_some_iff.1 e
   obtain ⟨⟨t2,ys2,st2⟩,e2,e⟩:=Option.map_eq_some_iff.1 e
   cases e
   obtain ⟨W1,k1,k2,k3,k4,k5,k6⟩:=UL h h1 e1
   have h2':RRs w W1 st1.L rs vs:=h2.ext (fun t b hb=>⟨k4 _ _ hb,rfl⟩) k3 (TrK.loose k5)
   obtain ⟨W2,l1,l2,l3,l4,l5,l6⟩:=BR rs vs k1 h2' e2
   refine ⟨W2,l1,l2.trans k2,k3.trans l3,fun t b hb=>l4 t b (k4 t b hb),k5.trans l5,CRi.cons (k6.mono fun b hb=>⟨l1.fle (Nat.le_max_left _ _) (l4 _ _ hb),rfl⟩) (l6.mono fun b hb=>⟨l1.fle (Nat.le_max_right _ _) hb,rfl⟩)⟩
end
end
end Go.Sim
