/- Calls. Conditions: none. -/
import Derived.Test.YtngbehdgjocndaaGreatSimV
namespace Go.Sim
variable [Lim]
open Classical
set_option linter.unusedSimpArgs false
set_option linter.unusedVariables false
noncomputable section
section
variable {P:Program} {cfg:Cfg} {aY:FuncId→List Arg→Option (Res×List Out)} {B:Base} {st st':St} {a:Act} {w:World} {W:Wit} {o:Oper} {nt f:Nat} {ops:Array Oper}
theorem kL.snoc {xs:List CV} {vs:List Value} {x:CV} {v:Value} (h:kL w W 0 xs vs) (hx:mg w W xs.length x v):kL w W 0 (xs++[x]) (vs++[v]):=by
 obtain ⟨h1,h2⟩:=h
 refine ⟨by simp [h1],fun i y u hy hu=>?_⟩
 by_cases hi:i<xs.length
 ·rw [List.getElem?_append_left hi] at hy
  rw [List.getElem?_append_left (by omega)] at hu
  exact h2 i y u hy hu
 ·by_cases he:i=xs.length
  ·subst he
   rw [List.getElem?_append_right (Nat.le_refl _)] at hy
   rw [List.getElem?_append_right (by omega)] at hu
   simp at hy
   rw [show xs.length - vs.length=0 by omega] at hu
   simp at hu
   subst hy hu
   simpa using hx
  ·rw [List.getElem?_eq_none (by simp;omega)] at hy;cases hy
def Lies (d s:Nat) (acc:List CV) (Eo:List Value) (W3 W4:Wit) (L:Nat→Option Obj):Prop:=
 W4.F=W3.F∧(acc≠[]→∃ob,L d=some ob∧s≤ob.ctr∧∃l,W4.vals d=Eo++l)
theorem JK {W2 W3:Wit} {d s:Nat} {mt:Nat→Option Nat} (htag:∀t t',mt t=some t'→∀b,W2.F (tg t) b→W3.F (tg t') b) (zl:∀b k,W2.own b=some (.det k)→W3.own b=some (.det k)):
 ∀(pc:List PC) (us:List Value) {k:Nat} {acc acc':List CV} {Eo:List Value} {rs:List RV},PCs w W2 k pc us→acc.length=k→kL w W3 0 acc Eo→cellsIn d s mt pc acc=some (rs,acc')→
  ∃xZ,kL w W3 0 acc' xZ∧acc'.length=k+nOw pc∧(∃l,acc'=acc++l)∧(∃l,xZ=Eo++l)∧∀W4 L,Lies d s acc' xZ W3 W4 L→RRs w W4 L rs us
 | [],us,k,acc,acc',Eo,rs,h,hk,hD,e=>by
  cases h
  simp only [cellsIn,Option.some.injEq,Prod.mk.injEq] at e
  obtain ⟨rfl,rfl⟩:=e
  exact ⟨Eo,hD,by simp [nOw,hk],⟨[],by simp⟩,⟨[],by simp⟩,fun _ _ _=> .nil⟩
 | .im t y::pc,us,k,acc,acc',Eo,rs,h,hk,hD,e=>by
  cases h with
  | @im _ _ _ _ v vs h1 h2=>
   have fin:∀{t':Nat} {rs':List RV},(∀W4:Wit,W4.F=W3.F→∀L,RR w W4 L (.im t' y) v)→cellsIn d s mt pc acc=some (rs',acc')→rs= .im t' y::rs'→
    ∃xZ,kL w W3 0 acc' xZ∧acc'.length=k+nOw (.im t y::pc)∧(∃l,acc'=acc++l)∧(∃l,xZ=Eo++l)∧∀W4 L,Lies d s acc' xZ W3 W4 L→RRs w W4 L rs (v::vs):=by
    intro t' rs' hrr he hrs
    obtain ⟨xZ,k1,k2,k3,k4,k5⟩:=JK htag zl pc vs h2 hk hD he
    subst hrs
    exact ⟨xZ,k1,k2,k3,k4,fun W4 L hL=> .cons (hrr W4 hL.1 L) (k5 W4 L hL)⟩
   cases y with
   | sc u=>
    simp only [cellsIn] at e
    obtain ⟨⟨rs',abV⟩,he,e⟩:=Option.map_eq_some_iff.1 e
    cases e
    cases h1 with
    | sc hp _=>exact fin (fun W4 _ L=> .sc hp .nil) he rfl
   | _=>
    simp only [cellsIn] at e
    obtain ⟨t',ht,e⟩:=Option.bind_eq_some_iff.1 e
    obtain ⟨⟨rs',abV⟩,he,e⟩:=Option.map_eq_some_iff.1 e
    cases e
    exact fin (fun W4 hW L=>CRi.mono (fun b hb=>⟨by rw [hW];exact htag _ _ ht b hb,rfl⟩) h1) he rfl
 | .pt _ _::pc,us,k,acc,acc',Eo,rs,h,hk,hD,e=>by simp [cellsIn] at e
 | .ow t sz es::pc,us,k,acc,acc',Eo,rs,h,hk,hD,e=>by
  cases h with
  | @ow _ _ _ _ _ v vs h1 h2=>
   simp only [cellsIn] at e
   obtain ⟨t',ht,e⟩:=Option.bind_eq_some_iff.1 e
   obtain ⟨⟨rs',abV⟩,he,e⟩:=Option.map_eq_some_iff.1 e
   cases e
   obtain ⟨sz',es',ob,q1,q2,q3⟩:=h1
   injection q1 with q4 q5
   subst q4 q5
   have hx:mg w W3 acc.length ⟨.sh,t',.row sz es⟩ v:=⟨sz,es,ob,rfl,q2.mono (fun b hb=>⟨htag _ _ ht b hb,rfl⟩) (fun _ _=>rfl),fun b hb=>by rw [hk];exact zl b k (q3 b hb)⟩
   obtain ⟨xZ,k1,k2,⟨l,k3⟩,⟨l',k4⟩,k5⟩:=JK htag zl pc vs h2 (by simp [hk]) (hD.snoc hx) he
   refine ⟨xZ,k1,by rw [k2];simp [nOw];omega,⟨⟨.sh,t',.row sz es⟩::l,by rw [k3];simp⟩,⟨v::l',by rw [k4];simp⟩,fun W4 L hL=> .cons ?_ (k5 W4 L hL)⟩
   obtain ⟨ob4,m1,m2,l4,m3⟩:=hL.2 (by rw [k3];simp)
   refine ⟨ob4,m1,m2,fun x hx _=>?_⟩
   rw [m3,k4,show acc.length=Eo.length from hD.1]
   simp
theorem Qo {W2 W3:Wit} {d s:Nat} {mt:Nat→Option Nat} (htag:∀t t',mt t=some t'→∀b,W2.F (tg t) b→W3.F (tg t') b) (zl:∀b k,W2.own b=some (.det k)→W3.own b=some (.det k)):
 ∀(res:Res) (us:List Value) {k:Nat} {acc acc':List CV} {Eo:List Value} {xs:List (Bool×List RV)},En w W2 k res us→acc.length=k→kL w W3 0 acc Eo→uX d s mt res acc=some (xs,acc')→
  ∃xZ,kL w W3 0 acc' xZ∧(∃l,acc'=acc++l)∧(∃l,xZ=Eo++l)∧∀W4 L,Lies d s acc' xZ W3 W4 L→sV w W4 L xs us
 | [],us,k,acc,acc',Eo,xs,h,hk,hD,e=>by
  cases h
  simp only [uX,Option.some.injEq,Prod.mk.injEq] at e
  obtain ⟨rfl,rfl⟩:=e
  exact ⟨Eo,hD,⟨[],by simp⟩,⟨[],by simp⟩,fun _ _ _=> .nil⟩
 | (ag,pc)::res,us,k,acc,acc',Eo,xs,h,hk,hD,e=>by
  simp only [uX] at e
  obtain ⟨⟨rs,arw⟩,e1,e⟩:=Option.bind_eq_some_iff.1 e
  obtain ⟨⟨xs2,abV⟩,e2,e⟩:=Option.map_eq_some_iff.1 e
  cases e
  have fin:∀{ws:List Value} {v:Value} {vs:List Value},PCs w W2 k pc ws→En w W2 (k+nOw pc) res vs→(∀W4 L,RRs w W4 L rs ws→Dy w W4 L (ag,rs) v)→
   ∃xZ,kL w W3 0 abV xZ∧(∃l,abV=acc++l)∧(∃l,xZ=Eo++l)∧∀W4 L,Lies d s abV xZ W3 W4 L→sV w W4 L ((ag,rs)::xs2) (v::vs):=by
   intro ws v vs h1 h2 hc
   obtain ⟨av1,k1,k2,⟨l1,k3⟩,⟨l2,k4⟩,k5⟩:=JK htag zl pc ws h1 hk hD e1
   obtain ⟨av2,m1,⟨l3,m2⟩,⟨l4,m3⟩,m4⟩:=Qo htag zl res vs h2 k2 k1 e2
   refine ⟨av2,m1,⟨l1++l3,by rw [m2,k3];simp⟩,⟨l2++l4,by rw [m3,k4];simp⟩,fun W4 L hL=> .cons (hc W4 L (k5 W4 L ⟨hL.1,fun hne=>?_⟩)) (m4 W4 L hL)⟩
   obtain ⟨ob,q1,q2,l,q3⟩:=hL.2 (by
    intro e0
    rw [m2] at e0
    exact hne (List.append_eq_nil_iff.1 e0).1)
   exact ⟨ob,q1,q2,l4++l,by rw [q3,m3];simp⟩
  cases h with
  | agg h1 h2=>exact fin h1 h2 fun W4 L hr=> .inl ⟨rfl,_,rfl,hr⟩
  | one h1 h2=>
   refine fin h1 h2 fun W4 L hr=>?_
   cases hr with
   | cons hr hn=>
    cases hn
    exact .inr ⟨rfl,_,rfl,hr⟩
omit [Lim] in
theorem Uj {mt:Nat→Option Nat}:∀{cs cs':List CV},TL mt cs=some cs'→cs'.length=cs.length∧∀(i:Nat) x,cs'[i]?=some x→∃y,cs[i]?=some y∧y.m=x.m∧y.a=x.a∧mt y.t=some x.t
 | [],cs',e=>by cases e;exact ⟨rfl,fun i x hx=>by simp at hx⟩
 | y::cs,cs',e=>by
  simp only [TL] at e
  obtain ⟨t,ht,e⟩:=Option.bind_eq_some_iff.1 e
  obtain ⟨cs2,h2,e⟩:=Option.map_eq_some_iff.1 e
  cases e
  obtain ⟨k1,k2⟩:=Uj h2
  refine ⟨by simp [k1],fun i x hx=>?_⟩
  cases i with
  | zero=>simp at hx;subst hx;exact ⟨y,rfl,rfl,rfl,ht⟩
  | succ i=>simpa using k2 i x (by simpa using hx)
theorem Qp {W4:Wit} {L:Nat→Option Obj} {xs:List (Bool×List RV)} {us:List Value} (hc:sV w W4 L xs us):SR w W4 L (F6 xs) (JJ us):=by
 cases hc with
 | nil=>exact ⟨#[],rfl,.nil⟩
 | @cons x xs' v vs h1 h2=>
  cases h2 with
  | nil=>exact h1
  | @cons y ys u us' h3 h4=>exact ⟨(v::u::us').toArray,rfl,.cons h1 (.cons h3 h4)⟩
theorem Uk {W2 W3:Wit} (h:Rel B st a w W3) {d s:Nat} (hd:d<B.nt) (hs:s=st.sG d) {mt:Nat→Option Nat} (htag:∀t t',mt t=some t'→∀b,W2.F (tg t) b→W3.F (tg t') b)
 (zl:∀b k,W2.own b=some (.det k)→W3.own b=some (.det k)) {res:Res} {us:List Value} (hr:En w W2 0 res us) {q:List (Bool×List RV)×List CV} (e:uX d s mt res []=some q):
 ∃W',Rel B ((st.Dw d q.2).cZ d (F6 q.1)) (a.put (some d) (JJ us)) w W':=by
 obtain ⟨xs,acc⟩:=q
 obtain ⟨Eo,k1,_,_,k2⟩:=Qo (Eo:=[]) htag zl res us hr rfl kL.nil e
 cases acc with
 | nil=>exact ⟨W3,h.put hd (Qp (k2 W3 st.L ⟨rfl,fun hne=>absurd rfl hne⟩))⟩
 | cons x acc=>
  obtain ⟨W',h1,h2,h3,h4,_,_⟩:=Ej h (d:=d) (mem:=false) (ag:=false) k1 (b0:=0) (fun hm=>Bool.noConfusion hm)
  refine ⟨W',h1.put hd (Qp (k2 W' _ ⟨h3,fun _=>⟨_,Ad _ _ _ _ _,?_,[],by rw [h4];simp⟩⟩))⟩
  rw [hs]
  exact Nat.le_refl _
theorem U5 {W2 W3:Wit} (h:Rel B st a w W3) {d:Nat} (hd:d<B.nt) {mt:Nat→Option Nat} (htag:∀t t',mt t=some t'→∀b,W2.F (tg t) b→W3.F (tg t') b) {st2:St} {a2:Act} {B2:Base} (h2:Rel B2 st2 a2 w W2)
 {o:Nat} {ob:Obj} {cs cs':List CV} (hL:st2.L o=some ob) (hm:ob.mem=true) (hf:ob.fz=false) (hg:Gy ob.cs=some cs) (hcs:TL mt cs=some cs') (hroot:∀b,W2.own b=some (.root o)→W3.own b=some (.root d))
 (hcell:∀b c,W2.own b=some (.cell o c)→W3.own b=some (.det c)):
 ∃W',Rel B ((st.newObj d true ob.ag cs').1.cZ d (.v false [.mp d (st.newObj d true ob.ag cs').2.1 0])) (a.put (some d) (.pointer (some ⟨W2.blk o,0,none⟩))) w W':=by
 have ho:=h2.iJ o ob hL
 obtain ⟨arr,T,fr,k1,k2,k3,k4,k5⟩:=ho.mem hm
 have hgf:cs.length=ob.cs.length∧∀(c:Nat) y,cs[c]?=some y→∃x,ob.cs[c]?=some x∧(x.m= .imm∨x.m= .sh)∧y=⟨x.m,dm x.t x.a,x.a⟩:=by
  unfold Gy at hg
  split at hg
  ·rename_i hall
   cases hg
   refine ⟨by simp,fun c y hy=>?_⟩
   rw [List.getElem?_map] at hy
   obtain ⟨x,hx,rfl⟩:=Option.map_eq_some_iff.1 hy
   have:=List.all_eq_true.1 hall x (List.mem_of_getElem? hx)
   exact ⟨x,hx,by revert this;cases x.m<;>simp,rfl⟩
  ·cases hg
 obtain ⟨m1,m2⟩:=Uj hcs
 have hD:kL w W3 0 cs' (W2.vals o):=by
  refine ⟨by rw [m1,hgf.1,ho.len],fun i x v hx hv=>?_⟩
  obtain ⟨y,hy,q1,q2,q3⟩:=m2 i x hx
  obtain ⟨z,hz,hzg,rfl⟩:=hgf.2 i y hy
  have hok:=ho.cells i z v hz hv
  obtain ⟨m,s,t,a0⟩:=z
  obtain ⟨m',t',a'⟩:=x
  simp only at q1 q2 q3 hzg
  subst q1 q2
  cases m with
  | gone=>exact absurd hzg (by simp)
  | dp _=>exact absurd hzg (by simp)
  | dd _ _ _=>exact absurd hzg (by simp)
  | ws=>exact absurd hzg (by simp)
  | fr=>exact absurd hzg (by simp)
  | imm=>
   show CRi w (W3.F (tg (dm t' a0))) [a0] [v]
   cases a0 with
   | sc u=>cases hok with | sc hp _=>exact .sc hp .nil
   | _=>exact CRi.mono (fun b hb=>⟨htag _ _ q3 b hb,rfl⟩) hok
  | sh=>
   cases a0 with
   | row sz es=>
    obtain ⟨p1,p2⟩:=hok
    exact ⟨sz,es,W2.fp o i,rfl,p1.mono (fun b hb=>⟨htag _ _ q3 b hb,rfl⟩) (fun _ _=>rfl),fun b hb=>by
     have:=hcell b i (p2 b hb)
     simpa using this⟩
   | _=>exact hok.elim
 obtain ⟨W',h1,h3,h4,h5,h6,h7⟩:=Ej h (d:=d) (mem:=true) (ag:=ob.ag) hD (b0:=W2.blk o) (fun _=>⟨hroot _ (k4 hf),T,fr,by rw [k1,←k2],fun i hi=>k3 i (by rw [←k2] at hi;simpa using hi)⟩)
 refine ⟨W',h1.put hd (.inr ⟨rfl,_,rfl,?_⟩)⟩
 refine ⟨_,Ad _ _ _ _ _,Nat.le_refl _,fun _=>⟨rfl,?_⟩⟩
 rw [h6 rfl]
def xu (W:Wit) (T:Nat) (bor:List Nat):Wit where
 F:=fun t b=>match t with
  | 0 | 1=>False
  | _=>W.F (tg T) b∨∃o∈bor,F8 W o b
 vals:=fun _=>[]
 blk:=fun _=>0
 fp:=fun _ _=>none
 us:=fun _ _=>[]
 own:=fun _=>none
omit [Lim] in
theorem F8.some {o b:Nat} (h:F8 W o b):∃x,W.own b=some x:=by
 rcases h with h | ⟨c,h⟩ | ⟨_,h⟩<;>exact ⟨_,h⟩
theorem Ul (h:Rel B st a w W) {T iot:Nat} {bor:List Nat} {args:List Arg} {vs:List Value} {lks:List LK} (hA:ML w W st T iot bor args vs lks 0) (hall:args.all Arg.TM=true) (n:Nat) (hn:vs.length≤n):
 Rel (jK w (xu W T bor) n) (entry args) (tZ vs n) w (xu W T bor):=by
 have hat:∀{j:Nat} {x:Arg},args[j]?=some x→∃v ag as,vs[j]?=some v∧x= .im 2 ag as∧vZ w (fun b=>W.F (tg T) b∨∃o∈bor,F8 W o b) ag as v:=by
  intro j x hx
  have hlt:j<args.length:=by
   rcases Nat.lt_or_ge j args.length with h' | h'
   ·exact h'
   ·rw [List.getElem?_eq_none h'] at hx;cases hx
  have h1:vs[j]?=some (vs[j]'(by rw [hA.Qg];exact hlt)):=List.getElem?_eq_getElem _
  have h2:lks[j]?=some (lks[j]'(by rw [hA.len];exact hlt)):=List.getElem?_eq_getElem _
  have h3:=hA.at_ j x _ _ hx h1 h2
  have h4:=List.all_eq_true.1 hall x (List.mem_of_getElem? hx)
  have h5:∃ag as,x= .im 2 ag as:=by
   unfold Arg.TM at h4
   split at h4
   ·exact ⟨_,_,rfl⟩
   ·cases h4
  obtain ⟨ag,as,rfl⟩:=h5
  refine ⟨_,ag,as,h1,rfl,?_⟩
  generalize lks[j]'(by rw [hA.len];exact hlt)=lk at h3
  cases lk with
  | no=>
   obtain ⟨ag',as',⟨e,_⟩ | ⟨e,hc⟩ | ⟨e,_⟩⟩:=h3
   ·cases e
   ·cases e;exact hc
   ·cases e
  | obj o=>obtain ⟨ob,cs,e,_⟩:=h3;cases e
  | row o c=>obtain ⟨ob,s,sz,es,e,_⟩:=h3;cases e
  | det=>
   obtain ⟨xs,us,_,_,_,⟨sz,es,e,_⟩ | ⟨cs,e,_⟩⟩:=h3<;>cases e
 have hbl:∀b,(W.F (tg T) b∨∃o∈bor,F8 W o b)→b<w.heap.size:=by
  rintro b (hb | ⟨o,_,hb⟩)
  ·exact h.flt b (h.f2 hb)
  ·obtain ⟨x,hx⟩:=hb.some
   exact (h.olt b x hx).1
 have hnone:∀o,(entry args).L o=none:=by
  intro o
  rw [KX]
  cases hx:args[o]? with
  | none=>rfl
  | some x=>
   obtain ⟨v,ag,as,_,rfl,_⟩:=hat hx
   rfl
 exact
  {f01:=fun b hb=>hb.elim,f12:=fun b hb=>hb.elim,fb:=fun t b hb=>hb,I9:=fun t b hb=> .inl hb,qF:=fun _ _=>rfl,flt:=fun b hb=>hbl b hb,olt:=fun b x hb=>by cases hb
   iJ:=fun o ob hL=>by rw [hnone] at hL;cases hL
   frame:=fun b _ _=>rfl,size:=Nat.le_refl _,io:=⟨rfl,rfl⟩
   par:=fun o ob hL _=>by rw [hnone] at hL;cases hL
   defers:=rfl
   tmps:=by
    show (vs.toArray++Array.replicate (n - vs.length) undef).size=n
    simp;omega
   uf:=fun b hb=> .inl hb,ouf:=fun b x hb=>by cases hb
   tsh:=fun b hb=>by cases hb
   slots:=fun t=>by
    rw [Xk]
    cases hx:args[t]? with
    | none=>exact .inr ⟨rfl,_,rfl,trivial⟩
    | some x=>
     obtain ⟨v,ag,as,hv,rfl,hc⟩:=hat hx
     have htv:(vs.toArray++Array.replicate (n - vs.length) undef).getD t undef=v:=by
      have hlt:t<vs.length:=by
       rcases Nat.lt_or_ge t vs.length with h' | h'
       ·exact h'
       ·rw [List.getElem?_eq_none h'] at hv;cases hv
      rw [Array.getD_eq_getD_getElem?,Array.getElem?_append_left (by simpa using hlt)]
      simp [hv]
     show SR w _ (entry args).L (.v ag (as.map (.im 2))) ((vs.toArray++Array.replicate (n - vs.length) undef).getD t undef)
     rw [htv]
     have h01:∀b,(xu W T bor).F 0 b→(xu W T bor).F 1 b:=fun b hb=>hb.elim
     have h12:∀b,(xu W T bor).F 1 b→(xu W T bor).F 2 b:=fun b hb=>hb.elim
     rcases hc with ⟨p1,us,p2,p3⟩ | ⟨p1,y,p2,p3⟩
     ·exact .inl ⟨p1,us,p2,JC (W:=xu W T bor) (t:=2) h01 h12 p3⟩
     ·subst p2
      refine .inr ⟨p1,_,rfl,?_⟩
      have:=JC (W:=xu W T bor) (t:=2) (L:=(entry args).L) h01 h12 p3
      cases this with
      | cons h1 _=>exact h1}
def Xn (w:World) (W:Wit) (O:Nat→Option nD):Wit:=
 {W with own:=fun b=>if w.heap.size≤b then O b else W.own b}
open Classical in
def frO (W2:Wit) (b:Nat):Option nD:=if W2.F 2 b∨∃k,W2.own b=some (.det k) then some (.tr false) else none
def Qq (w:World) (W W2:Wit):Wit:=Xn w W (frO W2)
theorem MM (h:Rel B st a w W) {T n:Nat} {bor:List Nat} {st2:St} {a2:Act} {w':World} {W2:Wit} (h2:Rel (jK w (xu W T bor) n) st2 a2 w' W2) {O:Nat→Option nD} (hO:∀b x,O b=some x→W2.F 2 b∨∃k,W2.own b=some (.det k)):Rel B st a w' (Xn w W O):=by
 have hold:∀b,b<w.heap.size→w'.heap[b]?=w.heap[b]?:=fun b hb=>h2.frame b hb (by show ¬(none:Option nD)≠none;simp)
 have ho1:∀b,b<w.heap.size→(Xn w W O).own b=W.own b:=fun b hb=>if_neg (by omega)
 have ho2:∀b x,W.own b=some x→(Xn w W O).own b=some x∧w'.heap[b]?=w.heap[b]?:=fun b x hb=>by
  have:=(h.olt b x hb).1
  exact ⟨by rw [ho1 b this];exact hb,hold b this⟩
 have hF:∀t b,W.F (tg t) b→W.F (tg t) b∧w'.heap[b]?=w.heap[b]?:=fun t b hb=>⟨hb,hold b (h.flt b (h.f2 hb))⟩
 have hbl:∀b,(xu W T bor).F 2 b→b<w.heap.size:=by
  rintro b (hb | ⟨o,_,hb⟩)
  ·exact h.flt b (h.f2 hb)
  ·obtain ⟨x,hx⟩:=hb.some
   exact (h.olt b x hx).1
 have hD:TrK w w' W (Xn w W O):=TrK.of fun x b hb=>ho2 b _ hb
 have:=h.step (hio:=h2.io) (L':=st.L) (w':=w') (W':=Xn w W O) (fun _ _ hb=>hb) h.f01 h.f12 (fun _ _ hb=> .inl hb) (fun b hb=>by rw [ho1 b (h.flt b hb)];exact h.qF b hb) (fun b hb=>Nat.lt_of_lt_of_le (h.flt b hb) h2.size)
  (fun b x hb=>?_) (fun b hb=>hold b (h.flt b hb)) (fun o ob hL=>⟨ob,hL,Nat.le_refl _,Nat.le_refl _,fun _ x hx=> .inr ⟨x,hx,rfl,rfl,fun hm=>⟨hm,fun _ es he=>⟨es,he,rfl⟩⟩,qG.same rfl⟩,fun _=>⟨rfl,rfl⟩⟩) (Par.same (fun _=>rfl) fun _=>rfl)
  (fun o ob hL=>?_) (fun b hb hl=>hold b (Nat.lt_of_lt_of_le hb h.size)) h2.size hD (fun b hb=> .inl hb) (fun b x hb=>?_)
 ·exact this
 ·by_cases hs:w.heap.size≤b
  ·have hb:O b=some x:=by
    have e:(Xn w W O).own b=O b:=if_pos hs
    rw [←e];exact hb
   refine ⟨?_,.inl (Nat.le_trans h.size hs)⟩
   rcases hO b x hb with hc | ⟨k,hc⟩
   ·exact h2.flt b hc
   ·exact (h2.olt b _ hc).1
  ·rw [ho1 b (by omega)] at hb
   exact ⟨Nat.lt_of_lt_of_le (h.olt b x hb).1 h2.size,(h.olt b x hb).2⟩
 ·refine (h.iJ o ob hL).keep hF rfl rfl (fun _=>rfl) (fun _=>rfl) (fun c b hb=>ho2 b _ hb) (fun hm=>?_) hD
  obtain ⟨arr,T',fr,k1,k2,k3,k4,k5⟩:=(h.iJ o ob hL).mem hm
  cases hf:ob.fz with
  | false=>exact ⟨(ho2 _ _ (k4 hf)).2,fun _=>(ho2 _ _ (k4 hf)).1⟩
  | true=>exact ⟨(hF 0 _ (k5 hf)).2,fun e=>by cases e⟩
 ·by_cases hs:w.heap.size≤b
  ·have hb:O b=some x:=by
    have e:(Xn w W O).own b=O b:=if_pos hs
    rw [←e];exact hb
   right
   rcases hO b x hb with hc | ⟨k,hc⟩
   ·rcases h2.uf b hc with q | q
    ·have:=hbl b q
     omega
    ·exact q
   ·exact h2.ouf b _ hc
  ·rw [ho1 b (by omega)] at hb
   exact .inl ⟨⟨x,hb⟩,.inl (hold b (by omega))⟩
theorem adQ (h:Rel B st a w W) {T n:Nat} {bor:List Nat} {st2:St} {a2:Act} {w':World} {W2:Wit} (h2:Rel (jK w (xu W T bor) n) st2 a2 w' W2):Rel B st a w' (Qq w W W2):=
 MM h h2 fun b x hb=>by
  unfold frO at hb
  split at hb
  ·assumption
  ·cases hb
theorem adR (h:Rel B st a w W) {T n:Nat} {bor:List Nat} {st2:St} {a2:Act} {w':World} {W2:Wit} (h2:Rel (jK w (xu W T bor) n) st2 a2 w' W2) (hlim:Lim.n≤w.heap.size) {res res':Res} {us:List Value}
 (hr:En w' W2 0 res us) (e:ac6 res=some res'):∃W3,Rel B st a w' W3∧En w' {W3 with F:=fun _ _=>False} 0 res' us:=by
 have row:∀{sz:Nat} {es:List AV} {v:Value},es.all AV.flat=true→PCs w' W2 0 [.im 0 (.row sz es)] [v]→∃W3,Rel B st a w' W3∧mg w' {W3 with F:=fun _ _=>False} 0 ⟨.sh,0,.row sz es⟩ v:=by
  intro sz es v hfl hp
  cases hp with
  | im h1 _=>
   have h1:CRi w' (W2.F 0) [.row sz es] [v]:=h1
   cases h1 with
   | gy _=>exact ⟨_,MM h h2 (O:=fun _=>none) (fun b x hb=>by cases hb),sz,[],none,rfl,.inl ⟨rfl,⟨_,rfl⟩,rfl⟩,fun b hb=>by cases hb⟩
   | @row _ _ _ _ b off cap arr T' fr us rest hb hh hs hd hl hc _=>
    have hb2:W2.F 2 b:=h2.f12 b (h2.f01 b hb)
    have hnew:w.heap.size≤b:=by
     rcases h2.I9 0 b hb with q | q | q
     ·exact q.elim
     ·exact q
     ·exact absurd rfl q
    have hbl:∀b,(xu W T bor).F 2 b→b<w.heap.size:=by
     rintro b (hb | ⟨o,_,hb⟩)
     ·exact h.flt b (h.f2 hb)
     ·obtain ⟨x,hx⟩:=hb.some
      exact (h.olt b x hx).1
    have huf:Dx w' b:=by
     rcases h2.uf b hb2 with q | q
     ·have:=hbl b q
      omega
     ·exact q
    refine ⟨_,MM h h2 (O:=fun b'=>if b'=b then some (.det 0) else none) (fun b' x hx=>?_),sz,es,some b,rfl,.inr ⟨b,off,cap,arr,T',fr,us,rest,rfl,rfl,hh,?_,hs,hd,?_,hl.1,?_⟩,fun b' hb'=>?_⟩
    ·by_cases e:b'=b
     ·subst e;exact .inl hb2
     ·rw [if_neg e] at hx;cases hx
    ·obtain ⟨alg,T2,fr2,q1,q2⟩:=huf
     rw [hh] at q1;cases q1
     exact q2
    ·have fl:∀{as:List AV} {us:List Value},as.all AV.OH=true→CRi w' (W2.F 0) as us→∀{Fp:Nat→Prop},CRi w' Fp as us:=by
      intro as us ha hc
      induction hc with
      | nil=>intro _;exact .nil
      | sc hp _ ih=>intro _;exact .sc hp (ih (by simpa [AV.OH] using ha))
      | gy _ _=>simp [AV.OH] at ha
      | row _ _ _ _ _ _ _ _ _=>simp [AV.OH] at ha
      | cp _ _ _ _ _ _ _=>simp [AV.OH] at ha
      | clo _ _ _ _=>simp [AV.OH] at ha
     refine fl ?_ hc
     rw [List.all_eq_true] at hfl ⊢
     intro x hx
     obtain ⟨y,hy,hx⟩:=List.mem_flatMap.1 hx
     have:=hfl y hy
     unfold AV.flat at this
     exact List.all_eq_true.1 this x hx
    ·rcases hl.2 with q | q
     ·exact q
     ·omega
    ·cases hb'
     show (if w.heap.size≤b then (if b=b then some (nD.det 0) else none) else W.own b)=some (.det 0)
     rw [if_pos hnew,if_pos rfl]
 unfold ac6 at e
 split at e
 ·split at e
  ·rename_i hfl
   cases e
   cases hr with
   | one h1 h3=>
    cases h3
    obtain ⟨W3,k1,k2⟩:=row hfl h1
    exact ⟨W3,k1,.one (.ow k2 .nil) .nil⟩
  ·cases e
 ·split at e
  ·rename_i hfl
   cases e
   cases hr with
   | one h1 h3=>
    obtain ⟨W3,k1,k2⟩:=row hfl h1
    cases h3 with
    | one h3 h4=>
     cases h4
     refine ⟨W3,k1,.one (.ow k2 .nil) (.one (.im ?_ .nil) .nil)⟩
     cases h3 with
     | im h5 _=>
      cases h5 with
      | sc hp _=>exact .sc hp .nil
  ·cases e
 ·split at e
  ·rename_i hfl
   cases e
   cases hr with
   | one h1 h3=>
    obtain ⟨W3,k1,k2⟩:=row hfl h1
    have sc1:∀{k k' t:Nat} {u:Value} {v:Value} {W':Wit},PCs w' W2 k [.im t (.sc u)] [v]→PCs w' W' k' [.im 0 (.sc u)] [v]:=by
     intro k k' t u v W' hp
     cases hp with
     | im h5 _=>
      refine .im ?_ .nil
      cases h5 with
      | sc hp _=>exact .sc hp .nil
    cases h3 with
    | one h3 h4=>
     cases h4 with
     | one h4 h5=>
      cases h5
      exact ⟨W3,k1,.one (.ow k2 .nil) (.one (sc1 h3) (.one (sc1 h4) .nil))⟩
  ·cases e
 ·cases e
theorem Xo (h:Rel B st a w W) {T n:Nat} {bor:List Nat} {st2:St} {a2:Act} {w':World} {W2:Wit} (h2:Rel (jK w (xu W T bor) n) st2 a2 w' W2) {L:Nat→Option Obj}:
 ∀(res:Res) (us:List Value) {k:Nat} {q:List (Bool×List RV)},En w' W2 k res us→Ef res=some q→sV w' (Qq w W W2) L q us:=by
 have alq:∀b,W2.F 0 b→w.heap.size≤b∧W2.F 2 b:=by
  intro b hb
  refine ⟨?_,h2.f12 b (h2.f01 b hb)⟩
  rcases h2.I9 0 b hb with q | q | q
  ·exact q.elim
  ·exact q
  ·exact absurd rfl q
 have alr:∀b k,W2.own b=some (.det k)→w.heap.size≤b:=by
  intro b k hb
  rcases (h2.olt b _ hb).2 with q | q
  ·exact q
  ·exact absurd rfl q
 have hcl0:∀b,W2.F 0 b→(Qq w W W2).own b=some (.tr false):=by
  intro b hb
  obtain ⟨q1,q2⟩:=alq b hb
  show (if _ then frO W2 b else _)=_
  rw [if_pos q1];unfold frO;rw [if_pos (.inl q2)]
 have anX:∀b k,W2.own b=some (.det k)→(Qq w W W2).own b=some (.tr false):=by
  intro b k hb
  show (if _ then frO W2 b else _)=_
  rw [if_pos (alr b k hb)];unfold frO;rw [if_pos (.inr ⟨k,hb⟩)]
 have cells:∀(cs:List PC) (us:List Value) {k:Nat} {rs:List RV},PCs w' W2 k cs us→xk cs=some rs→RRs w' (Qq w W W2) L rs us:=by
  intro cs
  induction cs with
  | nil=>intro us k rs hp e;cases hp;cases e;exact .nil
  | cons c cs ih=>
   intro us k rs hp e
   cases hp with
   | @im _ t y _ v vs h1 h3=>
    unfold xk at e
    split at e
    ·cases ‹_=[]›
    ·rename_i t' u r' heq
     cases heq
     obtain ⟨rs',e1,e2⟩:=Option.map_eq_some_iff.1 e
     subst e2
     refine .cons ?_ (ih vs h3 e1)
     show CRi w' _ [.sc u] [v]
     cases h1 with | sc hp _=>exact .sc hp .nil
    ·rename_i a' r' hns heq
     cases heq
     obtain ⟨rs',e1,e2⟩:=Option.map_eq_some_iff.1 e
     subst e2
     refine .cons ?_ (ih vs h3 e1)
     show CRi w' (fun b=>(Qq w W W2).own b=some (.tr false)) [y] [v]
     refine CRi.mono (fun b hb=>⟨hcl0 b ?_,rfl⟩) h1
     have e0:tg (dm 0 y)=0:=by cases y<;>rfl
     first | exact hb | (rw [e0] at hb;exact hb)
    ·rename_i heq;cases heq
    ·cases e
   | @ow _ t sz es _ v vs h1 h3=>
    unfold xk at e
    split at e
    ·cases ‹_=[]›
    ·rename_i heq;cases heq
    ·rename_i heq;cases heq
    ·rename_i sz' es' r' heq
     cases heq
     obtain ⟨rs',e1,e2⟩:=Option.map_eq_some_iff.1 e
     subst e2
     refine .cons ?_ (ih vs h3 e1)
     obtain ⟨sz2,es2,ob,q1,q2,q3⟩:=h1
     cases q1
     show CRi w' (fun b=>(Qq w W W2).own b=some (.tr false)) [.row sz es] [v]
     exact kJ.freeze (ob:=ob) (q2.mono (fun b hb=>⟨hcl0 b hb,rfl⟩) fun _ _=>rfl) fun b hb=>anX b _ (q3 b hb)
    ·cases e
 intro res
 induction res with
 | nil=>intro us k q hr e;cases hr;cases e;exact .nil
 | cons x res ih=>
  intro us k q hr e
  obtain ⟨ag,cs⟩:=x
  simp only [Ef] at e
  obtain ⟨rs,e1,e⟩:=Option.bind_eq_some_iff.1 e
  obtain ⟨q',e2,e⟩:=Option.map_eq_some_iff.1 e
  subst e
  cases hr with
  | agg h1 h3=>exact .cons (.inl ⟨rfl,_,rfl,cells _ _ h1 e1⟩) (ih _ h3 e2)
  | one h1 h3=>
   have hc:=cells _ _ h1 e1
   cases hc with
   | cons hc hn=>
    cases hn
    exact .cons (.inr ⟨rfl,_,rfl,hc⟩) (ih _ h3 e2)
end
end
end Go.Sim
