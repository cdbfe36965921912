/- The frame of a call as it ends. Conditions: none. -/
import Derived.Test.YtngbehdgjocndaaGreatSimR
namespace Go.Sim
variable [Lim]
open Classical
set_option linter.unusedSimpArgs false
set_option linter.unusedVariables false
noncomputable section
omit [Lim] in
theorem IP:∀{lks:List LK},Gj (lks.filterMap LK.id?)=false→∀{i j o:Nat} {x y:LK},lks[i]?=some x→lks[j]?=some y→x.id? =some o→y.id? =some o→i=j:=by
 intro lks
 induction lks with
 | nil=>intro _ i j o x y hx;simp at hx
 | cons z lks ih=>
  intro hd i j o x y hx hy hxo hyo
  have mem:∀{i:Nat} {x:LK},lks[i]?=some x→x.id? =some o→o∈lks.filterMap LK.id? :=fun hx hxo=>List.mem_filterMap.2 ⟨_,List.mem_of_getElem? hx,hxo⟩
  have hd':(∀o,z.id? =some o→o∉lks.filterMap LK.id?)∧Gj (lks.filterMap LK.id?)=false:=by
   cases hz:z.id? with
   | none=>rw [List.filterMap_cons_none hz] at hd;exact ⟨(fun o ho=>by cases ho),hd⟩
   | some o'=>
    rw [List.filterMap_cons_some hz] at hd
    simp only [Gj,Bool.or_eq_false_iff] at hd
    refine ⟨fun o ho hm=>?_,hd.2⟩
    cases ho
    have:=List.any_eq_false.1 hd.1 o' hm
    simp at this
  cases i with
  | zero=>
   cases j with
   | zero=>rfl
   | succ j=>
    simp at hx hy
    subst hx
    exact absurd (mem hy hyo) (hd'.1 o hxo)
  | succ i=>
   cases j with
   | zero=>
    simp at hx hy
    subst hy
    exact absurd (mem hx hxo) (hd'.1 o hyo)
   | succ j=>
    simp at hx hy
    rw [ih hd'.2 hx hy hxo hyo]
def lkO (lks:List LK) (o:Nat):Option Nat:=if h:∃j,lks[j]?=some (.obj o) then some (Classical.choose h) else none
def lkR (lks:List LK) (o c:Nat):Option Nat:=if h:∃j,lks[j]?=some (.row o c) then some (Classical.choose h) else none
omit [Lim] in
theorem Qh {lks:List LK} (hd:Gj (lks.filterMap LK.id?)=false) {j o:Nat} (h:lks[j]?=some (.obj o)):lkO lks o=some j:=by
 have hx:∃i,lks[i]?=some (LK.obj o):=⟨j,h⟩
 unfold lkO
 rw [dif_pos hx]
 rw [IP hd (Classical.choose_spec hx) h rfl rfl]
omit [Lim] in
theorem U0 {lks:List LK} {j o:Nat} (h:lkO lks o=some j):lks[j]?=some (.obj o):=by
 unfold lkO at h
 split at h
 ·rename_i hx
  cases h
  exact Classical.choose_spec hx
 ·cases h
omit [Lim] in
theorem EP {lks:List LK} {j o c:Nat} (h:lkR lks o c=some j):lks[j]?=some (.row o c):=by
 unfold lkR at h
 split at h
 ·rename_i hx
  cases h
  exact Classical.choose_spec hx
 ·cases h
omit [Lim] in
theorem Qi {lks:List LK} (hd:Gj (lks.filterMap LK.id?)=false) {j o c:Nat} (h:lks[j]?=some (.row o c)):lkR lks o c=some j∧lkO lks o=none:=by
 have hx:∃i,lks[i]?=some (LK.row o c):=⟨j,h⟩
 refine ⟨?_,?_⟩
 ·unfold lkR
  rw [dif_pos hx]
  rw [IP hd (Classical.choose_spec hx) h rfl rfl]
 ·unfold lkO
  rw [dif_neg]
  rintro ⟨i,hi⟩
  have:=IP hd hi h rfl rfl
  subst this
  rw [h] at hi;cases hi
def ownIn (lks:List LK) (own:Nat→Option nD) (b:Nat):Option nD:=
 match own b with
 | some (.root o)=>(lkO lks o).map .root
 | some (.cell o c)=>match lkO lks o with
  | some j=>some (.cell j c)
  | none=>(lkR lks o c).map fun j=> .cell j 0
 | some (.det k)=>if lks[k / 4096]?=some .det then some (.cell (k / 4096) (k % 4096)) else none
 | some (.tr true)=>some (.tr true)
 | some (.tr false)=>none
 | none=>none
def FIn (W:Wit) (T iot:Nat) (bor:List Nat):Nat→Nat→Prop
 | 0=>W.F 0
 | 1=>W.F (tg iot)
 | _=>fun b=>W.F (tg T) b∨∃o∈bor,F8 W o b
def adI:Value→List Value
 | .agg us=>us.toList
 | v=>[v]
def zf (W:Wit) (lks:List LK) (vs:List Value) (T iot:Nat) (bor:List Nat) (db:Nat→Nat→Option Nat):Wit where
 F:=FIn W T iot bor
 vals:=fun j=>match lks[j]? with
  | some (.obj o)=>W.vals o
  | some (.row o c)=>((W.vals o)[c]?).toList
  | some .det=>match vs[j]? with | some v=>adI v | none=>[]
  | _=>[]
 blk:=fun j=>match lks[j]? with
  | some (.obj o)=>W.blk o
  | _=>0
 fp:=fun j c=>match lks[j]? with
  | some (.obj o)=>W.fp o c
  | some (.row o c')=>if c=0 then W.fp o c' else none
  | some .det=>db j c
  | _=>none
 us:=fun _ _=>[]
 own:=ownIn lks W.own
def jK (w:World) (W':Wit) (n:Nat):Base where
 w0:=w
 F:=W'.F
 iZ:=fun b=>W'.own b≠none
 nt:=n
 alc:=W'.blk
 ais:=W'.vals
 tre:=fun b=>W'.own b=some (.tr true)
section
variable {P:Program} {cfg:Cfg} {aY:FuncId→List Arg→Option (Res×List Out)} {B:Base} {st st':St} {a:Act} {w:World} {W:Wit} {o:Oper} {nt f:Nat} {ops:Array Oper}
omit [Lim] in
theorem JI {lks:List LK} {own:Nat→Option nD} {b:Nat} {x:nD} (h:ownIn lks own b=some x):∃y,own b=some y:=by
 cases hb:own b with
 | none=>simp [ownIn,hb] at h
 | some y=>exact ⟨y,rfl⟩
omit [Lim] in
theorem KW {α:Type} (d:α) (g:Nat→Arg→α) (args:List Arg):∀(k t:Nat),look d ((args.zipIdx k).map fun p=>(p.2,g p.2 p.1)) t=if k≤t then (match args[t - k]? with | some x=>g t x | none=>d) else d:=by
 induction args with
 | nil=>intro k t;simp [look]
 | cons x args ih=>
  intro k t
  simp only [List.zipIdx_cons,List.map_cons,look]
  by_cases e:t=k
  ·subst e;simp
  ·rw [MF e,ih (k+1) t]
   by_cases h1:k+1≤t
   ·rw [if_pos h1,if_pos (by omega)]
    have:t - k=(t - (k+1))+1:=by omega
    rw [this,List.getElem?_cons_succ]
    rfl
   ·rw [if_neg h1,if_neg (by omega)]
    rfl
omit [Lim] in
theorem Xk (args:List Arg) (t:Nat):(entry args).sl t=match args[t]? with | some x=>(y9 t x).1 | none=> .qC:=by
 have:=KW SV.qC (fun j x=>(y9 j x).1) args 0 t
 simp only [Nat.zero_le,if_true,Nat.sub_zero] at this
 rw [←this]
 simp [entry,List.map_map,Function.comp_def]
omit [Lim] in
theorem KX (args:List Arg) (t:Nat):(entry args).L t=match args[t]? with | some x=>(y9 t x).2 | none=>none:=by
 have:=KW (none:Option Obj) (fun j x=>(y9 j x).2) args 0 t
 simp only [Nat.zero_le,if_true,Nat.sub_zero] at this
 rw [←this]
 simp [entry,List.map_map,Function.comp_def]
omit [Lim] in
theorem Qj {xs ys:List Nat} (h:overlap xs ys=false) {o:Nat} (hx:o∈xs) (hy:o∈ys):False:=by
 unfold overlap at h
 have:=List.any_eq_false.1 h o hx
 simp at this
 exact this hy
theorem adJ (h:Rel B st a w W) {T iot:Nat} {bor:List Nat} {args:List Arg} {vs:List Value} {lks:List LK} (hA:ML w W st T iot bor args vs lks 0) (hio:iot≤T) (hd:Gj (lks.filterMap LK.id?)=false)
 (hov:overlap bor (lks.filterMap LK.id?)=false):
 ∃db,∀n,vs.length≤n→Rel (jK w (zf W lks vs T iot bor db) n) (entry args) {tmps:=vs.toArray++Array.replicate (n - vs.length) undef,defers:=[]} w (zf W lks vs T iot bor db):=by
 have hch:∀j,∃p:(List CV×List Value)×(Nat→Option Nat),∀x v,args[j]?=some x→vs[j]?=some v→lks[j]?=some .det→aiw w W j x v p.1.1 p.1.2∧
  ∀c y u,p.1.1[c]?=some y→p.1.2[c]?=some u→y.m= .sh→∃sz es,y.a= .row sz es∧kJ w (W.F (tg y.t)) sz es u (p.2 c)∧∀b,p.2 c=some b→W.own b=some (.det (j*4096+c)):=by
  intro j
  by_cases hx:lks[j]?=some .det∧∃v,vs[j]?=some v
  ·obtain ⟨h1,v,h2⟩:=hx
   have hlt:j<args.length:=by
    rw [←hA.Qg]
    rcases Nat.lt_or_ge j vs.length with h' | h'
    ·exact h'
    ·rw [List.getElem?_eq_none h'] at h2;cases h2
   have hx:args[j]?=some args[j]:=List.getElem?_eq_getElem hlt
   obtain ⟨xs,us,k1⟩:=hA.at_ j _ v .det hx h2 h1
   rw [Nat.zero_add] at k1
   obtain ⟨fpn,usn,k2⟩:=kL.choose k1.1
   refine ⟨((xs,us),fpn),fun x v' hx' hv' _=>?_⟩
   rw [h2] at hv';cases hv'
   rw [hx] at hx';cases hx'
   exact ⟨k1,fun c y u hy hu hm=>(k2 c y u hy hu).1 hm⟩
  ·exact ⟨(([],[]),fun _=>none),fun x v _ h2 h1=>absurd ⟨h1,v,h2⟩ hx⟩
 obtain ⟨dp,hdp⟩:=Classical.skolem.1 hch
 obtain ⟨db,anV⟩:∃db:Nat→Nat→Option Nat,db=fun j=>(dp j).2:=⟨_,rfl⟩
 refine ⟨db,fun n hn=>?_⟩
 generalize hW:zf W lks vs T iot bor db=W'
 have hF:W'.F=FIn W T iot bor:=by subst hW;rfl
 have U1:W'.own=ownIn lks W.own:=by subst hW;rfl
 have agv:∀{o:Nat},o∈bor→lkO lks o=none∧∀c,lkR lks o c=none:=by
  intro o ho
  constructor
  ·cases hk:lkO lks o with
   | none=>rfl
   | some j=>exact (Qj hov ho (List.mem_filterMap.2 ⟨_,List.mem_of_getElem? (U0 hk),rfl⟩)).elim
  ·intro c
   cases hk:lkR lks o c with
   | none=>rfl
   | some j=>exact (Qj hov ho (List.mem_filterMap.2 ⟨_,List.mem_of_getElem? (EP hk),rfl⟩)).elim
 have ajr:∀{o b:Nat},o∈bor→F8 W o b→W'.own b=none:=by
  intro o b ho hb
  obtain ⟨n1,n2⟩:=agv ho
  rw [U1]
  rcases hb with hb | ⟨c,hb⟩ | ⟨_,hb⟩
  ·simp [ownIn,hb,n1]
  ·simp [ownIn,hb,n1,n2 c]
  ·simp [ownIn,hb]
 have hroot:∀{j o b:Nat},lks[j]?=some (.obj o)→W.own b=some (.root o)→W'.own b=some (.root j):=by
  intro j o b hj hb
  rw [U1]
  simp [ownIn,hb,Qh hd hj]
 have hcell:∀{j o c b:Nat},lks[j]?=some (.obj o)→W.own b=some (.cell o c)→W'.own b=some (.cell j c):=by
  intro j o c b hj hb
  rw [U1]
  simp [ownIn,hb,Qh hd hj]
 have hrow:∀{j o c b:Nat},lks[j]?=some (.row o c)→W.own b=some (.cell o c)→W'.own b=some (.cell j 0):=by
  intro j o c b hj hb
  obtain ⟨n1,n2⟩:=Qi hd hj
  rw [U1]
  simp [ownIn,hb,n1,n2]
 have zl:∀{j c b:Nat},c<4096→lks[j]?=some .det→W.own b=some (.det (j*4096+c))→W'.own b=some (.cell j c):=by
  intro j c b hc hj hb
  have e1:(j*4096+c) / 4096=j:=by omega
  have e2:(j*4096+c) % 4096=c:=by omega
  rw [U1]
  simp [ownIn,hb,e1,e2,hj]
 have htr:∀b,W.own b=some (.tr true)→W'.own b=some (.tr true):=by
  intro b hb
  rw [U1]
  simp [ownIn,hb]
 have hF0:∀b,W.F 0 b→W.F (tg iot) b:=fun b hb=>h.fle (t:=0) (t':=iot) (Nat.zero_le _) hb
 have hF1:∀b,W.F (tg iot) b→W.F (tg T) b:=fun b hb=>h.fle hio hb
 have hat:∀{j:Nat} {x:Arg},args[j]?=some x→∃v lk,vs[j]?=some v∧lks[j]?=some lk∧ZW w W st T iot bor j x v lk:=by
  intro j x hx
  have hlt:j<args.length:=by
   rcases Nat.lt_or_ge j args.length with h' | h'
   ·exact h'
   ·rw [List.getElem?_eq_none h'] at hx;cases hx
  have h1:vs[j]?=some (vs[j]'(by rw [hA.Qg];exact hlt)):=List.getElem?_eq_getElem _
  have h2:lks[j]?=some (lks[j]'(by rw [hA.len];exact hlt)):=List.getElem?_eq_getElem _
  have:=hA.at_ j x _ _ hx h1 h2
  rw [Nat.zero_add] at this
  exact ⟨_,_,h1,h2,this⟩
 have aix:∀{j o:Nat},lks[j]?=some (.obj o)→W'.vals j=W.vals o∧W'.blk j=W.blk o∧∀c,W'.fp j c=W.fp o c:=by
  intro j o hj
  subst hW
  simp [zf,hj]
 have adK:∀{j o c:Nat},lks[j]?=some (.row o c)→W'.vals j=((W.vals o)[c]?).toList∧W'.fp j 0=W.fp o c:=by
  intro j o c hj
  subst hW
  simp [zf,hj]
 have adL:∀{j:Nat} {v:Value},lks[j]?=some .det→vs[j]?=some v→W'.vals j=adI v∧W'.fp j=(dp j).2:=by
  intro j v hj hv
  subst hW anV
  simp [zf,hj,hv]
 have hmv:∀{j:Nat} {x:Arg} {v:Value},args[j]?=some x→vs[j]?=some v→lks[j]?=some .det→W'.vals j=(dp j).1.2∧∃ag,y9 j x=((y9 j x).1,some {gen:=0,ctr:=0,io:=false,mem:=false,fz:=false,ag,cs:=(dp j).1.1.map (CV.at 0)})∧
  ((ag=false∧(y9 j x).1= .v false [.own j 0 0]∧(dp j).1.2=[v])∨(ag=true∧v= .agg (dp j).1.2.toArray∧(y9 j x).1= .v true (uV j 0 ((dp j).1.1.map (CV.at 0))))):=by
  intro j x v hx hv hj
  obtain ⟨⟨k1,_,_,k2⟩,k3⟩:=hdp j x v hx hv hj
  obtain ⟨e1,_⟩:=adL hj hv
  rw [e1]
  rcases k2 with ⟨sz,es,rfl,q1,q2⟩ | ⟨cs,rfl,q1,q2⟩
  ·rw [q1,q2]
   refine ⟨?_,false,rfl,.inl ⟨rfl,rfl,rfl⟩⟩
   rw [q1,q2] at k1
   obtain ⟨sz',es',ob,_,k4,_⟩:=k1.2 0 _ v rfl rfl
   rcases k4 with ⟨_,⟨x,rfl⟩,_⟩ | ⟨b,off,cap,arr,T,fr,us,rest,rfl,_⟩<;>rfl
  ·refine ⟨by rw [q2];rfl,true,?_,.inr ⟨rfl,q2,?_⟩⟩
   ·rw [q1,List.map_map];rfl
   ·rw [q1,List.map_map];rfl
 refine
  {f01:=?_,f12:=?_,fb:=fun t b hb=>hb,I9:=fun t b hb=> .inl hb,qF:=?_,flt:=?_,olt:=?_,iJ:=?_,slots:=?_,frame:=fun b _ _=>rfl,size:=Nat.le_refl _,io:=⟨rfl,rfl⟩
   par:=fun o ob _ _=>⟨rfl,fun _=>rfl⟩,defers:=rfl,tmps:=?_,uf:=fun b hb=> .inl hb,ouf:=fun b x hb=>?_,tsh:=fun b hb=>⟨hb,.inl rfl⟩}
 ·intro b hb;rw [hF] at hb ⊢;exact hF0 b hb
 ·intro b hb;rw [hF] at hb ⊢;exact .inl (hF1 b hb)
 ·intro b hb
  rw [hF] at hb
  rcases hb with hb | ⟨o,ho,hb⟩
  ·rw [U1];simp [ownIn,h.qF b (h.f2 hb)]
  ·exact ajr ho hb
 ·intro b hb
  rw [hF] at hb
  rcases hb with hb | ⟨o,ho,hb⟩
  ·exact h.flt b (h.f2 hb)
  ·rcases hb with hb | ⟨c,hb⟩ | ⟨_,hb⟩<;>exact (h.olt b _ hb).1
 ·intro b x hb
  obtain ⟨y,hy⟩:=JI (by rw [U1] at hb;exact hb)
  exact ⟨(h.olt b y hy).1,.inr (by show W'.own b≠none;rw [hb];intro e;cases e)⟩
 ·intro j ob hL
  rw [KX] at hL
  cases hx:args[j]? with
  | none=>rw [hx] at hL;cases hL
  | some x=>
   rw [hx] at hL
   simp only at hL
   obtain ⟨v,lk,hv,hlk,YG⟩:=hat hx
   cases lk with
   | no=>
    obtain ⟨ag,as,⟨rfl,_⟩ | ⟨rfl,_⟩ | ⟨rfl,_⟩⟩:=YG<;>cases hL
   | obj o=>
    obtain ⟨ob0,cs,rfl,hL0,hm,hfz,hpv,hfl,hfits⟩:=YG
    simp only [y9,Option.some.injEq] at hL
    subst hL
    obtain ⟨e1,e2,e3⟩:=aix hlk
    have ho:=h.iJ o ob0 hL0
    refine ⟨by rw [e1,ho.len,hfl];simp,fun c x v hx hv=>?_,fun _=>?_,(fun hf=>by cases hf),fun x hx=>?_⟩
    ·rw [e1] at hv
     simp only [List.getElem?_map] at hx
     obtain ⟨⟨m,y⟩,hc,rfl⟩:=Option.map_eq_some_iff.1 hx
     obtain ⟨s,t,hx0,hcase⟩:=hfits c m y hc
     have hok:=ho.cells c _ v hx0 hv
     rcases hcase with ⟨rfl,ht⟩ | ⟨rfl,rfl⟩ | ⟨rfl,ht⟩
     ·show CRi w (W'.F (tg (dm (dm 1 y) y))) [y] [v]
      cases y with
      | sc u=>cases hok with | sc hp _=>exact .sc hp .nil
      | _=>exact CRi.mono (fun b hb=>⟨by rw [hF];exact h.fle ht hb,rfl⟩) hok
     ·cases y with
      | row sz es=>
       obtain ⟨k1,k2⟩:=hok
       refine ⟨?_,fun b hb=>?_⟩
       ·rw [e3 c];exact k1.mono (fun b hb=>⟨by rw [hF];exact hb,rfl⟩) fun b hb=>rfl
       ·rw [e3 c] at hb;exact hcell hlk (k2 b hb)
      | _=>exact hok.elim
     ·show CRi w (W'.F (tg (dm 0 y))) [y] [v]
      have hok:CRi w (W.F (tg (dm t y))) [y] [v]:=hok
      rw [ht] at hok
      have e0:dm 0 y=0:=by cases y<;>rfl
      rw [e0]
      exact hok.mono fun b hb=>⟨by rw [hF];exact hb,rfl⟩
    ·obtain ⟨arr,T',fr,k1,k2,k3,k4,k5⟩:=ho.mem hm
     exact ⟨arr,T',fr,by rw [e2];exact k1,by rw [e1];exact k2,k3,fun _=>by rw [e2];exact hroot hlk (k4 hfz),(fun hf=>by cases hf)⟩
    ·obtain ⟨y,_,rfl⟩:=List.mem_map.1 hx
     exact Nat.le_refl _
   | row o c=>
    obtain ⟨ob0,s,sz,es,rfl,hL0,hc0,hpv⟩:=YG
    simp only [y9,Option.some.injEq] at hL
    subst hL
    obtain ⟨e1,e3⟩:=adK hlk
    have ho:=h.iJ o ob0 hL0
    refine ⟨by rw [e1,hpv];rfl,fun c' x v' hx hv'=>?_,(fun hf=>by cases hf),(fun hf=>by cases hf),fun x hx=>?_⟩
    ·cases c' with
     | succ c'=>simp at hx
     | zero=>
      simp at hx
      subst hx
      rw [e1,hpv] at hv'
      simp at hv'
      subst hv'
      obtain ⟨k1,k2⟩:=ho.cells c _ v hc0 hpv
      refine ⟨?_,fun b hb=>?_⟩
      ·rw [e3];exact k1.mono (fun b hb=>⟨by rw [hF];exact hb,rfl⟩) fun b hb=>rfl
      ·rw [e3] at hb;exact hrow hlk (k2 b hb)
    ·simp at hx;subst hx;exact Nat.le_refl _
   | det=>
    obtain ⟨⟨k1,k2,k3,_⟩,k4⟩:=hdp j x v hx hv hlk
    obtain ⟨e1,ag,e2,_⟩:=hmv hx hv hlk
    rw [e2] at hL
    simp only [Option.some.injEq] at hL
    subst hL
    have e3:=(adL hlk hv).2
    refine ⟨by rw [e1,←k1.1];simp,fun c' x' v' hx' hv'=>?_,(fun hf=>by cases hf),(fun hf=>by cases hf),fun x hx=>?_⟩
    ·rw [e1] at hv'
     simp only [List.getElem?_map] at hx'
     obtain ⟨y,hy,rfl⟩:=Option.map_eq_some_iff.1 hx'
     have hc:c'<4096:=by
      rcases Nat.lt_or_ge c' (dp j).1.1.length with h' | h'
      ·omega
      ·rw [List.getElem?_eq_none h'] at hy;cases hy
     have hd0:=k1.2 c' y v' hy hv'
     have hym:=k3 y (List.mem_of_getElem? hy)
     have hsh:=k4 c' y v' hy hv'
     obtain ⟨m,t,z⟩:=y
     obtain ⟨ht,hm⟩:=hym
     simp only at ht hm
     subst ht
     rcases hm with rfl | rfl
     ·show CRi w (W'.F (tg (dm 0 z))) [z] [v']
      have hd0:CRi w (W.F (tg (dm 0 z))) [z] [v']:=hd0
      have e0:dm 0 z=0:=by cases z<;>rfl
      rw [e0] at hd0 ⊢
      exact hd0.mono fun b hb=>⟨by rw [hF];exact hb,rfl⟩
     ·obtain ⟨sz,es,q1,q2,q3⟩:=hsh rfl
      simp only at q1
      subst q1
      refine ⟨?_,fun b hb=>?_⟩
      ·rw [e3];exact q2.mono (fun b hb=>⟨by rw [hF];exact hb,rfl⟩) fun b hb=>rfl
      ·rw [e3] at hb;exact zl hc hlk (q3 b hb)
    ·obtain ⟨y,_,rfl⟩:=List.mem_map.1 hx
     exact Nat.le_refl _
 ·intro t
  rw [Xk]
  cases hx:args[t]? with
  | none=>exact .inr ⟨rfl,_,rfl,trivial⟩
  | some x=>
   obtain ⟨v,lk,hv,hlk,YG⟩:=hat hx
   have htv:(vs.toArray++Array.replicate (n - vs.length) undef).getD t undef=v:=by
    have hlt:t<vs.length:=by
     rcases Nat.lt_or_ge t vs.length with h' | h'
     ·exact h'
     ·rw [List.getElem?_eq_none h'] at hv;cases hv
    rw [Array.getD_eq_getD_getElem?,Array.getElem?_append_left (by simpa using hlt)]
    simp [hv]
   show SR w W' (entry args).L (y9 t x).1 ((vs.toArray++Array.replicate (n - vs.length) undef).getD t undef)
   rw [htv]
   have alo:∀{tt:Nat} {ag:Bool} {as:List AV},vZ w (W'.F (tg tt)) ag as v→SR w W' (entry args).L (.v ag (as.map (.im tt))) v:=by
    intro tt ag as hc
    have h01:∀b,W'.F 0 b→W'.F 1 b:=fun b hb=>by rw [hF] at hb ⊢;exact hF0 b hb
    have h12:∀b,W'.F 1 b→W'.F 2 b:=fun b hb=>by rw [hF] at hb ⊢;exact .inl (hF1 b hb)
    rcases hc with ⟨p1,us,p2,p3⟩ | ⟨p1,y,p2,p3⟩
    ·exact .inl ⟨p1,us,p2,JC h01 h12 p3⟩
    ·subst p2
     refine .inr ⟨p1,_,rfl,?_⟩
     have:=JC (L:=(entry args).L) h01 h12 p3
     cases this with
     | cons h1 _=>exact h1
   cases lk with
   | no=>
    obtain ⟨ag,as,⟨rfl,hc⟩ | ⟨rfl,hc⟩ | ⟨rfl,hc⟩⟩:=YG
    ·exact alo (tt:=0) (hc.mono fun b hb=>⟨by rw [hF];exact hb,rfl⟩)
    ·exact alo (tt:=2) (hc.mono fun b hb=>⟨by rw [hF];exact hb,rfl⟩)
    ·rcases hc with ⟨p1,us,p2,p3⟩ | ⟨p1,y,p2,p3⟩
     ·exact .inl ⟨p1,us,p2,Yk (p3.mono fun b hb=>⟨htr b hb,.inl rfl⟩)⟩
     ·subst p2
      exact .inr ⟨p1,_,rfl,p3.mono fun b hb=>⟨htr b hb,.inl rfl⟩⟩
   | obj o=>
    obtain ⟨ob0,cs,rfl,hL0,hm,hfz,hpv,hfl,hfits⟩:=YG
    refine .inr ⟨rfl,_,rfl,?_⟩
    refine ⟨_,by rw [KX,hx];rfl,Nat.le_refl _,fun _=>⟨rfl,?_⟩⟩
    rw [hpv,(aix hlk).2.1]
   | row o c=>
    obtain ⟨ob0,s,sz,es,rfl,hL0,hc0,hpv⟩:=YG
    refine .inr ⟨rfl,_,rfl,?_⟩
    refine ⟨_,by rw [KX,hx];rfl,Nat.le_refl _,fun y hy _=>?_⟩
    rw [(adK hlk).1,hpv];rfl
   | det=>
    obtain ⟨⟨k1,k2,k3,_⟩,k4⟩:=hdp t x v hx hv hlk
    obtain ⟨e1,ag,e2,e4⟩:=hmv hx hv hlk
    have hLt:(entry args).L t=some {gen:=0,ctr:=0,io:=false,mem:=false,fz:=false,ag,cs:=(dp t).1.1.map (CV.at 0)}:=by
     rw [KX,hx]
     simp only
     rw [e2]
    rcases e4 with ⟨_,q1,q2⟩ | ⟨_,q1,q2⟩
    ·rw [q1]
     refine .inr ⟨rfl,_,rfl,?_⟩
     refine ⟨_,hLt,Nat.le_refl _,fun y hy _=>?_⟩
     rw [e1,q2];rfl
    ·rw [q2]
     refine .inl ⟨rfl,_,q1,?_⟩
     have main:∀(l:List CV) (ws:List Value) (c:Nat),l.length=ws.length→(∀i y,l[i]?=some y→(dp t).1.1[c+i]?=some y)→(∀i u,ws[i]?=some u→(dp t).1.2[c+i]?=some u)→RRs w W' (entry args).L (uV t c (l.map (CV.at 0))) ws:=by
      intro l
      induction l with
      | nil=>intro ws c hl _ _;cases ws with
       | nil=>exact .nil
       | cons _ _=>cases hl
      | cons y l ih=>
       intro ws c hl h1 h2
       cases ws with
       | nil=>cases hl
       | cons u ws=>
        have hy:=h1 0 y rfl
        have hu:=h2 0 u rfl
        rw [Nat.add_zero] at hy hu
        have hrest:=ih ws (c+1) (by simpa using hl) (fun i z hz=>by rw [show c+1+i=c+(i+1) by omega];exact h1 (i+1) z (by simpa using hz)) (fun i z hz=>by rw [show c+1+i=c+(i+1) by omega];exact h2 (i+1) z (by simpa using hz))
        have hym:=k3 y (List.mem_of_getElem? hy)
        have hd0:=k1.2 c y u hy hu
        obtain ⟨m,t',z⟩:=y
        obtain ⟨ht,hm⟩:=hym
        simp only at ht hm
        subst ht
        rcases hm with rfl | rfl
        ·refine .cons ?_ hrest
         show CRi w (W'.F (tg (dm (dm 0 z) z))) [z] [u]
         have hd0:CRi w (W.F (tg (dm 0 z))) [z] [u]:=hd0
         have e0:dm 0 z=0:=by cases z<;>rfl
         rw [e0] at hd0 ⊢
         rw [e0]
         exact hd0.mono fun b hb=>⟨by rw [hF];exact hb,rfl⟩
        ·refine .cons ⟨_,hLt,Nat.le_refl _,fun x' hx' _=>?_⟩ hrest
         rw [e1]
         exact hu
     exact main _ _ 0 k1.1 (fun i y hy=>by rw [Nat.zero_add];exact hy) (fun i u hu=>by rw [Nat.zero_add];simpa using hu)
 ·show (vs.toArray++Array.replicate (n - vs.length) undef).size=n
  simp;omega
 ·obtain ⟨y,hy⟩:=JI (by rw [U1] at hb;exact hb)
  exact h.ouf b y hy
end
end
end Go.Sim
namespace Go.Sim
variable [Lim]
open Classical
set_option linter.unusedSimpArgs false
set_option linter.unusedVariables false
noncomputable section
def nOw:List PC→Nat
 | []=>0
 | .ow ..::r=>nOw r+1
 | _::r=>nOw r
inductive PCs (w:World) (W:Wit):Nat→List PC→List Value→Prop
 | nil {k}:PCs w W k [] []
 | im {k t y cs v vs}:CRi w (W.F (tg (dm t y))) [y] [v]→PCs w W k cs vs→PCs w W k (.im t y::cs) (v::vs)
 | ow {k t sz es cs v vs}:mg w W k ⟨.sh,t,.row sz es⟩ v→PCs w W (k+1) cs vs→PCs w W k (.ow t sz es::cs) (v::vs)
inductive En (w:World) (W:Wit):Nat→Res→List Value→Prop
 | nil {k}:En w W k [] []
 | agg {k cs us r vs}:PCs w W k cs us.toList→En w W (k+nOw cs) r vs→En w W k ((true,cs)::r) (.agg us::vs)
 | one {k c v r vs}:PCs w W k [c] [v]→En w W (k+nOw [c]) r vs→En w W k ((false,[c])::r) (v::vs)
section
variable {P:Program} {cfg:Cfg} {aY:FuncId→List Arg→Option (Res×List Out)} {B:Base} {st st':St} {a:Act} {w:World} {W:Wit} {o:Oper} {nt f:Nat} {ops:Array Oper}
theorem PCs.quiet {W':Wit} (hq:iE B st a w W st' W') {k:Nat} {cs:List PC} {vs:List Value} (h:PCs w W k cs vs):PCs w W' k cs vs:=by
 induction h with
 | nil=>exact .nil
 | im h1 _ ih=>exact .im (h1.mono fun b hb=>⟨hq.2.2.2.1 _ _ hb,rfl⟩) ih
 | ow h1 _ ih=>exact .ow (h1.step (fun t b hb=>⟨hq.2.2.2.1 _ _ hb,rfl⟩) (fun b hb=>⟨hq.2.2.2.2 _ _ rfl hb,rfl⟩) (TrK.loose hq.2.2.2.2)) ih
theorem En.quiet {W':Wit} (hq:iE B st a w W st' W') {k:Nat} {r:Res} {vs:List Value} (h:En w W k r vs):En w W' k r vs:=by
 induction h with
 | nil=>exact .nil
 | agg h1 _ ih=>exact .agg (h1.quiet hq) ih
 | one h1 _ ih=>exact .one (h1.quiet hq) ih
theorem Dz:∀(rs:List RV) (vs:List Value) {st st':St} {W:Wit} {ks:List (Option Nat)} {pc:List PC} (k:Nat),Rel B st a w W→RRs w W st.L rs vs→st.Gz ks rs=some (pc,st')→
 ∃W',iE B st a w W st' W'∧PCs w W' k pc vs
 | [],vs,st,st',W,ks,pc,k,h,hr,e=>by
  cases hr
  cases e
  exact ⟨W,iE.refl h,.nil⟩
 | r::rs,vs,st,st',W,ks,pc,k,h,hr,e=>by
  cases hr with
  | @cons _ _ v vs h1 h2=>
   simp only [St.Gz] at e
   obtain ⟨⟨⟨m,t,y⟩,st1⟩,e1,e⟩:=Option.bind_eq_some_iff.1 e
   obtain ⟨c,e2,e⟩:=Option.bind_eq_some_iff.1 e
   obtain ⟨⟨pc2,st2⟩,e3,e⟩:=Option.map_eq_some_iff.1 e
   cases e
   obtain ⟨W1,k1,k2,k3,k4,k5,k6⟩:=zM h h1 e1 k
   have hq:iE B st a w W st1 W1:=⟨k1,k2,k3,k4,k5⟩
   have h2':RRs w W1 st1.L rs vs:=h2.ext (fun t b hb=>⟨k4 _ _ hb,rfl⟩) k3 (TrK.loose k5)
   cases m with
   | gone=>cases e2
   | imm=>
    cases e2
    obtain ⟨W2,l1,l2⟩:=Dz rs vs k k1 h2' e3
    exact ⟨W2,hq.trans l1,.im (CRi.mono (fun b hb=>⟨l1.2.2.2.1 _ _ hb,rfl⟩) k6) l2⟩
   | sh=>
    cases y with
    | row sz es=>
     cases e2
     obtain ⟨W2,l1,l2⟩:=Dz rs vs (k+1) k1 h2' e3
     exact ⟨W2,hq.trans l1,.ow (k6.step (fun t b hb=>⟨l1.2.2.2.1 _ _ hb,rfl⟩) (fun b hb=>⟨l1.2.2.2.2 _ _ rfl hb,rfl⟩) (TrK.loose l1.2.2.2.2)) l2⟩
    | _=>cases e2
   | _=>cases y<;>cases e2
def F9 (a:Act):ResultVar→Sem Value
 | .tmp t=>pure (a.tmps.getD t undef)
 | .cell x t=>do loadVar t (←asAddr (a.tmps.getD x undef))
theorem Uh (h:Rel B st a w W) {x:ResultVar×TypeId} {sv:SV} (e:st.GG P x=some sv):∃v,(F9 a x.1).run P w= .ok v w∧SR w W st.L sv v:=by
 obtain ⟨rv,ty⟩:=x
 cases rv with
 | tmp t=>
  cases e
  exact ⟨_,rfl,h.slots t⟩
 | cell y t=>
  simp only [St.GG] at e
  obtain ⟨ks,hks,e⟩:=Option.bind_eq_some_iff.1 e
  obtain ⟨r,hr,e⟩:=Option.bind_eq_some_iff.1 e
  obtain ⟨d,hd⟩:=GI hks
  have hx:SR w W st.L (st.get (.tmp y)) (a.tmps.getD y undef):=h.slots y
  obtain ⟨b,off,arr,T,fr,us,rest,hv,hh,hdr,hlen,hs⟩:=ZM h (GL hr hx) e
  refine ⟨_,?_,hs⟩
  have:=Oo (P:=P) (w:=w) hd hh hdr hlen
  simp only [F9,hv,Sem.run_bind,asAddr,Sem.run_pure,Result.andThen_ok]
  exact this
theorem Qk:∀(l:List (ResultVar×TypeId)) {st st':St} {W:Wit} {res:Res} (k:Nat),Rel B st a w W→st.results P l=some (res,st')→
 ∃W' vs,iE B st a w W st' W'∧En w W' k res vs∧vs.length=l.length∧∀(i:Nat) x v,l[i]?=some x→vs[i]?=some v→(F9 a x.1).run P w= .ok v w
 | [],st,st',W,res,k,h,e=>by
  cases e
  exact ⟨W,[],iE.refl h,.nil,rfl,fun i x v hx=>by simp at hx⟩
 | x::l,st,st',W,res,k,h,e=>by
  simp only [St.results] at e
  obtain ⟨sv,e1,e⟩:=Option.bind_eq_some_iff.1 e
  obtain ⟨v,hv,hs⟩:=Uh h e1
  cases sv with
  | v ag cs=>
   simp only at e
   obtain ⟨⟨pc,st1⟩,e2,e⟩:=Option.bind_eq_some_iff.1 e
   obtain ⟨⟨r,st2⟩,e3,e⟩:=Option.map_eq_some_iff.1 e
   cases e
   have fin:∀{W1:Wit} {us:List Value},iE B st a w W st1 W1→PCs w W1 k pc us→(∀{W2:Wit} {vs:List Value},PCs w W2 k pc us→En w W2 (k+nOw pc) r vs→En w W2 k ((ag,pc)::r) (v::vs))→
    ∃W' vs,iE B st a w W st2 W'∧En w W' k ((ag,pc)::r) vs∧vs.length=(x::l).length∧∀(i:Nat) y v,(x::l)[i]?=some y→vs[i]?=some v→(F9 a y.1).run P w= .ok v w:=by
    intro W1 us k1 k2 k3
    obtain ⟨W2,vs,l1,l2,l3,l4⟩:=Qk l (k+nOw pc) k1.1 e3
    refine ⟨W2,v::vs,k1.trans l1,k3 (k2.quiet l1) l2,by simp [l3],fun i y u hy hu=>?_⟩
    cases i with
    | zero=>simp at hy hu;subst hy hu;exact hv
    | succ i=>exact l4 i y u (by simpa using hy) (by simpa using hu)
   rcases hs with ⟨p1,us,rfl,p2⟩ | ⟨p1,r0,p2,p3⟩
   ·simp only at p1 p2
    subst p1
    obtain ⟨W1,k1,k2⟩:=Dz cs us.toList k h p2 e2
    exact fin k1 k2 fun h1 h2=> .agg h1 h2
   ·simp only at p1 p2
    subst p1 p2
    obtain ⟨W1,k1,k2⟩:=Dz [r0] [v] k h (.cons p3 .nil) e2
    obtain ⟨c,hc⟩:∃c,pc=[c]:=by
     cases k2 with
     | im _ h2=>cases h2;exact ⟨_,rfl⟩
     | ow _ h2=>cases h2;exact ⟨_,rfl⟩
    subst hc
    exact fin k1 k2 fun h1 h2=> .one h1 h2
  | _=>cases e
def ZX (w:World) (W:Wit) (L:Nat→Option Obj) (res:Res) (vs:List Value):Prop:=
 (∃o ob cs v,res=[(false,[.pt ob.ag cs])]∧vs=[v]∧L o=some ob∧ob.mem=true∧ob.fz=false∧ob.io=false∧Gy ob.cs=some cs∧v= .pointer (some ⟨W.blk o,0,none⟩))∨En w W 0 res vs
theorem ajs (h:Rel B st a w W) {l:List (ResultVar×TypeId)} {res:Res} (e:st.ret P l=some (res,st')):
 ∃W' vs,iE B st a w W st' W'∧ZX w W' st'.L res vs∧vs.length=l.length∧∀(i:Nat) x v,l[i]?=some x→vs[i]?=some v→(F9 a x.1).run P w= .ok v w:=by
 have gen:∀{l:List (ResultVar×TypeId)},st.results P l=some (res,st')→∃W' vs,iE B st a w W st' W'∧ZX w W' st'.L res vs∧vs.length=l.length∧∀(i:Nat) x v,l[i]?=some x→vs[i]?=some v→(F9 a x.1).run P w= .ok v w:=by
  intro l e
  obtain ⟨W',vs,k1,k2,k3,k4⟩:=Qk l 0 h e
  exact ⟨W',vs,k1,.inr k2,k3,k4⟩
 have one:∀{x:ResultVar×TypeId} {p:Bool×List CV} {st1:St} {W1:Wit},Rel B st1 a w W1→st1.MB P x=some p→∃v,ZX w W1 st1.L [(false,[.pt p.1 p.2])] [v]∧(F9 a x.1).run P w= .ok v w:=by
  intro x p st1 W1 h hp
  unfold St.MB at hp
  split at hp
  ·rename_i o s he
   obtain ⟨ob,h1,hp⟩:=Option.bind_eq_some_iff.1 hp
   split at hp
   ·rename_i hc
    simp only [Bool.and_eq_true,Bool.not_eq_true'] at hc
    obtain ⟨cs,h2,h3⟩:=Option.map_eq_some_iff.1 hp
    subst h3
    obtain ⟨v,hv,hs⟩:=Uh h he
    obtain ⟨hL,hg⟩:=xW h1
    obtain ⟨ob2,q1,_,q3⟩:=eX hs
    rw [hL] at q1;cases q1
    exact ⟨v,.inl ⟨o,ob,cs,v,rfl,rfl,hL,hc.1.1,hc.1.2,hc.2,h2,(q3 hg).2⟩,hv⟩
   ·cases hp
  ·cases hp
 unfold St.ret at e
 split at e
 ·rename_i x
  split at e
  ·rename_i p hp
   cases e
   obtain ⟨v,h1,hv⟩:=one h hp
   refine ⟨W,[v],iE.refl h,h1,rfl,fun i y u hy hu=>?_⟩
   cases i with
   | zero=>simp at hy hu;subst hy hu;exact hv
   | succ i=>simp at hy
  ·split at e
   ·rename_i st1 hu
    obtain ⟨p,hp,e⟩:=Option.map_eq_some_iff.1 e
    cases e
    unfold St.UK at hu
    split at hu
    ·obtain ⟨ob,h1,hu⟩:=Option.bind_eq_some_iff.1 hu
     split at hu
     ·cases hu
     ·cases hu
      obtain ⟨W1,k1⟩:=xI _ h (xW h1).1
      obtain ⟨v,h2,hv⟩:=one k1.1 hp
      refine ⟨W1,[v],k1,h2,rfl,fun i y u hy hu=>?_⟩
      cases i with
      | zero=>simp at hy hu;subst hy hu;exact hv
      | succ i=>simp at hy
    ·cases hu
   ·exact gen e
 ·exact gen e
def JJ (vs:List Value):Value:=match vs with | [v]=>v | vs=> .tuple vs.toArray
omit [Lim] in
theorem Xl {fn:Func} {vs:List Value} (hl:vs.length=fn.results.size) (h:∀(i:Nat) x v,fn.results.toList[i]?=some x→vs[i]?=some v→(F9 a x).run P w= .ok v w):(results fn a.tmps).run P w= .ok (JJ vs) w:=by
 have hm:∀(l:List ResultVar) (vs:List Value),vs.length=l.length→(∀(i:Nat) x v,l[i]?=some x→vs[i]?=some v→(F9 a x).run P w= .ok v w)→(l.mapM (F9 a)).run P w= .ok vs w:=by
  intro l
  induction l with
  | nil=>intro vs hl _;rw [List.length_eq_zero_iff.1 hl];rfl
  | cons x l ih=>
   intro vs hl h
   cases vs with
   | nil=>cases hl
   | cons v vs=>
    rw [List.mapM_cons]
    simp only [Sem.run_bind,h 0 x v rfl rfl,Result.andThen_ok,ih vs (by simpa using hl) fun i x v hx hv=>h (i+1) x v (by simpa using hx) (by simpa using hv),Sem.run_pure]
 have h1:=hm fn.results.toList vs (by simpa using hl) h
 have h2:(fn.results.mapM (F9 a)).run P w= .ok vs.toArray w:=by
  rw [Array.mapM_eq_mapM_toList]
  simp [h1]
 have h3:results fn a.tmps=(do let vs ←fn.results.mapM (F9 a);pure (if h:vs.size=1 then vs[0] else .tuple vs):Sem Value):=by
  unfold results
  congr 1
 rw [h3]
 simp only [Sem.run_bind,h2,Result.andThen_ok,Sem.run_pure]
 congr 1
 unfold JJ
 cases vs with
 | nil=>rfl
 | cons v vs=>
  cases vs with
  | nil=>rfl
  | cons u vs=>rw [dif_neg (by simp)]
theorem ER:∀(args:List Arg) {j:Nat} {st:St} {W:Wit},Rel B st a w W→∃W',iE B st a w W (st.jG cfg f j args) W'∧∀o ob,ob.io=false→st.L o=some ob→(st.jG cfg f j args).L o=some ob
 | [],j,st,W,h=>⟨W,iE.refl h,fun _ _ _ h=>h⟩
 | x::args,j,st,W,h=>by
  have rest:∃W',iE B st a w W (st.jG cfg f (j+1) args) W'∧∀o ob,ob.io=false→st.L o=some ob→(st.jG cfg f (j+1) args).L o=some ob:=ER args h
  cases x with
  | ptr ag cs=>
   simp only [St.jG]
   split
   ·rename_i ms ob SG hL
    split
    ·rename_i hc
     simp only [Bool.and_eq_true] at hc
     obtain ⟨W1,k1⟩:=xI (PG 0 ms) h hL
     obtain ⟨W2,l1,l2⟩:=ER args (j:=j+1) k1.1
     refine ⟨W2,k1.trans l1,fun o ob' hio hL'=>l2 o ob' hio ?_⟩
     have hne:o≠j:=by
      intro e
      subst e
      rw [hL] at hL';cases hL'
      rw [hc.1.1] at hio;cases hio
     simp only [St.setObj,upd_ne _ _ hne]
     exact hL'
    ·exact rest
   ·exact rest
  | _=>exact rest
def GZ (cfg:Cfg) (f:FuncId) (B:Base) (args:List Arg) (res:Res) (outs:List Out) (w:World) (v:Value):Prop:=
 ∃st a W vs,Rel B st a w W∧ZX w W st.L res vs∧v=JJ vs∧vY cfg st f 0 args=some outs
def tZ (vs:List Value) (n:Nat):Act:={tmps:=vs.toArray++Array.replicate (n - vs.length) undef,defers:=[]}
def Ql (P:Program) (cfg:Cfg) (aY:FuncId→List Arg→Option (Res×List Out)):Prop:=
 ∀f args res outs,aY f args=some (res,outs)→∀(w:World) (vs:List Value) (W:Wit),vs.length=args.length→BOK cfg.gb (jK w W 0)→(∀n,vs.length≤n→Rel (jK w W n) (entry args) (tZ vs n) w W)→
  Calls P f vs.toArray w fun e w'=>∃v n,e= .returned v∧GZ cfg f (jK w W n) args res outs w' v
theorem abT (Qd:P.follows .mixedOrders=true) {n:Nat} (hops:∀B,BOK cfg.gb B→P8 P cfg aY B) {fn:Func} (hf:P.funcs[f]?=some fn) (hgood:∀c,fn.body=some c→o7 (cfg.fc f) c=true) {args:List Arg} {res:Res} {outs:List Out}
 (e:EL P cfg aY n f fn args=some (res,outs)) (w:World) (vs:List Value) (W:Wit) (hl:vs.length=args.length) (hg:BOK cfg.gb (jK w W 0)) (hr:∀n,vs.length≤n→Rel (jK w W n) (entry args) (tZ vs n) w W):
 Calls P f vs.toArray w fun e w'=>∃v n,e= .returned v∧GZ cfg f (jK w W n) args res outs w' v:=by
 unfold EL at e
 split at e
 ·cases e
 ·rename_i hn
  have hn:args.length≤fn.ntmps:=by
   have:Nat.ble args.length fn.ntmps=true:=by simpa using hn
   exact qH this
  obtain ⟨c,hc,e⟩:=Option.bind_eq_some_iff.1 e
  obtain ⟨⟨ex,st1⟩,h1,e⟩:=Option.bind_eq_some_iff.1 e
  have hend:ex≠ .exit 0→True:=fun _=>trivial
  have hw:=zq (B:=jK w W fn.ntmps) Qd (hops _ hg) rfl c (hgood c hc) (hr fn.ntmps (by omega)) h1
  have hstart:tZ vs fn.ntmps={tmps:=vs.toArray++Array.replicate (fn.ntmps - vs.toArray.size) undef,defers:=[]}:=by simp [tZ]
  rw [hstart] at hw
  refine calls_of_wp hf hc (wp_mono hw fun x a' w' hx=>?_)
  have fin:∀{W1:Wit},Rel (jK w W fn.ntmps) st1 a' w' W1→((if fn.results.size.beq fn.resultTypes.size then st1.ret P (fn.results.toList.zip fn.resultTypes.toList) else none).bind fun q=>(vY cfg (q.2.jG cfg f 0 args) f 0 args).map fun outs=>(q.1,outs))=some (res,outs)→
   a'.defers=[]∧∃v,(results fn a'.tmps).run P w'= .ok v w'∧∃v' n,Ending.returned v= .returned v'∧GZ cfg f (jK w W n) args res outs w' v':=by
   intro W1 hr1 e
   refine ⟨hr1.defers,?_⟩
   obtain ⟨⟨r,st2⟩,h2,e⟩:=Option.bind_eq_some_iff.1 e
   obtain ⟨outs',h3,e⟩:=Option.map_eq_some_iff.1 e
   cases e
   split at h2
   ·rename_i hsz
    have hsz:=beq_eq hsz
    obtain ⟨W2,us,k1,k2,k3,k4⟩:=ajs hr1 h2
    obtain ⟨W3,l1,l2⟩:=ER (cfg:=cfg) (f:=f) args (j:=0) k1.1
    have hlen:us.length=fn.results.size:=by
     rw [k3,List.length_zip];simp;omega
    refine ⟨JJ us,Xl hlen fun i x v hx hv=>?_,JJ us,fn.ntmps,rfl,_,a',W3,us,l1.1,?_,rfl,h3⟩
    ·have hilt:i<fn.resultTypes.toList.length:=by
      rcases Nat.lt_or_ge i fn.results.toList.length with h' | h'
      ·simp at h' ⊢;omega
      ·rw [List.getElem?_eq_none h'] at hx;cases hx
     have hz:(fn.results.toList.zip fn.resultTypes.toList)[i]?=some (x,fn.resultTypes.toList[i]):=by
      rw [List.getElem?_zip_eq_some]
      exact ⟨hx,List.getElem?_eq_getElem hilt⟩
     exact k4 i _ v hz hv
    ·rcases k2 with ⟨o,ob,cs,v,q1,q2,q3,q4,q5,q6,q7,q8⟩ | k2
     ·refine .inl ⟨o,ob,cs,v,q1,q2,l2 o ob q6 q3,q4,q5,q6,q7,?_⟩
      rw [q8]
      obtain ⟨ob',m1,_,_,_,m5⟩:=l1.2.2.1 o ob q3
      rw [l2 o ob q6 q3] at m1;cases m1
      rw [(m5 rfl).2]
     ·exact .inr (k2.quiet l1)
   ·cases h2
  cases x with
  | normal=>
   obtain ⟨p1,W1,p2⟩:=hx
   subst p1
   exact fin p2 e
  | ret=>
   obtain ⟨p1,W1,p2⟩:=hx
   subst p1
   exact fin p2 e
  | exit id=>
   obtain ⟨p1,W1,p2⟩:=hx
   subst p1
   cases e
  | _=>exact hx.elim
end
end
end Go.Sim
