/- Calls. Conditions: none. -/
import Derived.Test.YthdegfgajfgggaaDoorSimV
namespace Go.Sim
open Classical
set_option linter.unusedSimpArgs false
set_option linter.unusedVariables false
noncomputable section
section
variable {P:Program} {cfg:Cfg} {callF:FuncId→List Arg→Option (Res×List Out)} {B:Base} {st st':St} {a:Act} {w:World} {W:Wit} {o:Oper} {nt f:Nat} {ops:Array Oper}
theorem Dets.snoc {xs:List CV} {vs:List Value} {x:CV} {v:Value} (h:Dets w W 0 xs vs) (hx:DetOK w W xs.length x v):Dets w W 0 (xs++[x]) (vs++[v]):=by
 obtain ⟨h1,h2⟩:=h
 refine ⟨by simp [h1],fun i y u hy hu=>?_⟩
 by_cases hi:i<xs.length
 ·rw [List.getElem?_append_left hi] at hy
  rw [List.getElem?_append_left (by omega)] at hu
  exact h2 i y u hy hu
 ·by_cases he:i=xs.length
  ·subst he
   rw [List.getElem?_append_right (Nat.le_refl _)] at hy
   rw [List.getElem?_append_right (by omega)] at hu
   simp at hy
   rw [show xs.length - vs.length=0 by omega] at hu
   simp at hu
   subst hy hu
   simpa using hx
  ·rw [List.getElem?_eq_none (by simp;omega)] at hy;cases hy
def Lies (d s:Nat) (acc:List CV) (accv:List Value) (W3 W4:Wit) (L:Nat→Option Obj):Prop:=
 W4.F=W3.F∧(acc≠[]→∃ob,L d=some ob∧s≤ob.ctr∧∃l,W4.vals d=accv++l)
theorem cellsIn_ok {W2 W3:Wit} {d s:Nat} {mt:Nat→Option Nat} (htag:∀t t',mt t=some t'→∀b,W2.F (tg t) b→W3.F (tg t') b) (hdet:∀b k,W2.own b=some (.det k)→W3.own b=some (.det k)):
 ∀(pc:List PC) (us:List Value) {k:Nat} {acc acc':List CV} {accv:List Value} {rs:List RV},PCs w W2 k pc us→acc.length=k→Dets w W3 0 acc accv→cellsIn d s mt pc acc=some (rs,acc')→
  ∃accv',Dets w W3 0 acc' accv'∧acc'.length=k+nOw pc∧(∃l,acc'=acc++l)∧(∃l,accv'=accv++l)∧∀W4 L,Lies d s acc' accv' W3 W4 L→RRs w W4 L rs us
 | [],us,k,acc,acc',accv,rs,h,hk,hD,e=>by
  cases h
  simp only [cellsIn,Option.some.injEq,Prod.mk.injEq] at e
  obtain ⟨rfl,rfl⟩:=e
  exact ⟨accv,hD,by simp [nOw,hk],⟨[],by simp⟩,⟨[],by simp⟩,fun _ _ _=> .nil⟩
 | .im t y::pc,us,k,acc,acc',accv,rs,h,hk,hD,e=>by
  cases h with
  | @im _ _ _ _ v vs h1 h2=>
   have fin:∀{t':Nat} {rs':List RV},(∀W4:Wit,W4.F=W3.F→∀L,RR w W4 L (.im t' y) v)→cellsIn d s mt pc acc=some (rs',acc')→rs= .im t' y::rs'→
    ∃accv',Dets w W3 0 acc' accv'∧acc'.length=k+nOw (.im t y::pc)∧(∃l,acc'=acc++l)∧(∃l,accv'=accv++l)∧∀W4 L,Lies d s acc' accv' W3 W4 L→RRs w W4 L rs (v::vs):=by
    intro t' rs' hrr he hrs
    obtain ⟨accv',k1,k2,k3,k4,k5⟩:=cellsIn_ok htag hdet pc vs h2 hk hD he
    subst hrs
    exact ⟨accv',k1,k2,k3,k4,fun W4 L hL=> .cons (hrr W4 hL.1 L) (k5 W4 L hL)⟩
   cases y with
   | sc u=>
    simp only [cellsIn] at e
    obtain ⟨⟨rs',acc2⟩,he,e⟩:=Option.map_eq_some_iff.1 e
    cases e
    cases h1 with
    | sc hp _=>exact fin (fun W4 _ L=> .sc hp .nil) he rfl
   | _=>
    simp only [cellsIn] at e
    obtain ⟨t',ht,e⟩:=Option.bind_eq_some_iff.1 e
    obtain ⟨⟨rs',acc2⟩,he,e⟩:=Option.map_eq_some_iff.1 e
    cases e
    exact fin (fun W4 hW L=>CRi.mono (fun b hb=>⟨by rw [hW];exact htag _ _ ht b hb,rfl⟩) h1) he rfl
 | .pt _ _::pc,us,k,acc,acc',accv,rs,h,hk,hD,e=>by simp [cellsIn] at e
 | .ow t sz es::pc,us,k,acc,acc',accv,rs,h,hk,hD,e=>by
  cases h with
  | @ow _ _ _ _ _ v vs h1 h2=>
   simp only [cellsIn] at e
   obtain ⟨t',ht,e⟩:=Option.bind_eq_some_iff.1 e
   obtain ⟨⟨rs',acc2⟩,he,e⟩:=Option.map_eq_some_iff.1 e
   cases e
   obtain ⟨sz',es',ob,q1,q2,q3⟩:=h1
   injection q1 with q4 q5
   subst q4 q5
   have hx:DetOK w W3 acc.length ⟨.sh,t',.row sz es⟩ v:=⟨sz,es,ob,rfl,q2.mono (fun b hb=>⟨htag _ _ ht b hb,rfl⟩) (fun _ _=>rfl),fun b hb=>by rw [hk];exact hdet b k (q3 b hb)⟩
   obtain ⟨accv',k1,k2,⟨l,k3⟩,⟨l',k4⟩,k5⟩:=cellsIn_ok htag hdet pc vs h2 (by simp [hk]) (hD.snoc hx) he
   refine ⟨accv',k1,by rw [k2];simp [nOw];omega,⟨⟨.sh,t',.row sz es⟩::l,by rw [k3];simp⟩,⟨v::l',by rw [k4];simp⟩,fun W4 L hL=> .cons ?_ (k5 W4 L hL)⟩
   obtain ⟨ob4,m1,m2,l4,m3⟩:=hL.2 (by rw [k3];simp)
   refine ⟨ob4,m1,m2,fun x hx _=>?_⟩
   rw [m3,k4,show acc.length=accv.length from hD.1]
   simp
theorem compsIn_ok {W2 W3:Wit} {d s:Nat} {mt:Nat→Option Nat} (htag:∀t t',mt t=some t'→∀b,W2.F (tg t) b→W3.F (tg t') b) (hdet:∀b k,W2.own b=some (.det k)→W3.own b=some (.det k)):
 ∀(res:Res) (us:List Value) {k:Nat} {acc acc':List CV} {accv:List Value} {xs:List (Bool×List RV)},ResR w W2 k res us→acc.length=k→Dets w W3 0 acc accv→compsIn d s mt res acc=some (xs,acc')→
  ∃accv',Dets w W3 0 acc' accv'∧(∃l,acc'=acc++l)∧(∃l,accv'=accv++l)∧∀W4 L,Lies d s acc' accv' W3 W4 L→CompsR w W4 L xs us
 | [],us,k,acc,acc',accv,xs,h,hk,hD,e=>by
  cases h
  simp only [compsIn,Option.some.injEq,Prod.mk.injEq] at e
  obtain ⟨rfl,rfl⟩:=e
  exact ⟨accv,hD,⟨[],by simp⟩,⟨[],by simp⟩,fun _ _ _=> .nil⟩
 | (ag,pc)::res,us,k,acc,acc',accv,xs,h,hk,hD,e=>by
  simp only [compsIn] at e
  obtain ⟨⟨rs,acc1⟩,e1,e⟩:=Option.bind_eq_some_iff.1 e
  obtain ⟨⟨xs2,acc2⟩,e2,e⟩:=Option.map_eq_some_iff.1 e
  cases e
  have fin:∀{ws:List Value} {v:Value} {vs:List Value},PCs w W2 k pc ws→ResR w W2 (k+nOw pc) res vs→(∀W4 L,RRs w W4 L rs ws→CompR w W4 L (ag,rs) v)→
   ∃accv',Dets w W3 0 acc2 accv'∧(∃l,acc2=acc++l)∧(∃l,accv'=accv++l)∧∀W4 L,Lies d s acc2 accv' W3 W4 L→CompsR w W4 L ((ag,rs)::xs2) (v::vs):=by
   intro ws v vs h1 h2 hc
   obtain ⟨av1,k1,k2,⟨l1,k3⟩,⟨l2,k4⟩,k5⟩:=cellsIn_ok htag hdet pc ws h1 hk hD e1
   obtain ⟨av2,m1,⟨l3,m2⟩,⟨l4,m3⟩,m4⟩:=compsIn_ok htag hdet res vs h2 k2 k1 e2
   refine ⟨av2,m1,⟨l1++l3,by rw [m2,k3];simp⟩,⟨l2++l4,by rw [m3,k4];simp⟩,fun W4 L hL=> .cons (hc W4 L (k5 W4 L ⟨hL.1,fun hne=>?_⟩)) (m4 W4 L hL)⟩
   obtain ⟨ob,q1,q2,l,q3⟩:=hL.2 (by
    intro e0
    rw [m2] at e0
    exact hne (List.append_eq_nil_iff.1 e0).1)
   exact ⟨ob,q1,q2,l4++l,by rw [q3,m3];simp⟩
  cases h with
  | agg h1 h2=>exact fin h1 h2 fun W4 L hr=> .inl ⟨rfl,_,rfl,hr⟩
  | one h1 h2=>
   refine fin h1 h2 fun W4 L hr=>?_
   cases hr with
   | cons hr hn=>
    cases hn
    exact .inr ⟨rfl,_,rfl,hr⟩
theorem mapCV_get {mt:Nat→Option Nat}:∀{cs cs':List CV},mapCV mt cs=some cs'→cs'.length=cs.length∧∀(i:Nat) x,cs'[i]?=some x→∃y,cs[i]?=some y∧y.m=x.m∧y.a=x.a∧mt y.t=some x.t
 | [],cs',e=>by cases e;exact ⟨rfl,fun i x hx=>by simp at hx⟩
 | y::cs,cs',e=>by
  simp only [mapCV] at e
  obtain ⟨t,ht,e⟩:=Option.bind_eq_some_iff.1 e
  obtain ⟨cs2,h2,e⟩:=Option.map_eq_some_iff.1 e
  cases e
  obtain ⟨k1,k2⟩:=mapCV_get h2
  refine ⟨by simp [k1],fun i x hx=>?_⟩
  cases i with
  | zero=>simp at hx;subst hx;exact ⟨y,rfl,rfl,rfl,ht⟩
  | succ i=>simpa using k2 i x (by simpa using hx)
theorem comps_sv {W4:Wit} {L:Nat→Option Obj} {xs:List (Bool×List RV)} {us:List Value} (hc:CompsR w W4 L xs us):SR w W4 L (resSV xs) (retVal us):=by
 cases hc with
 | nil=>exact ⟨#[],rfl,.nil⟩
 | @cons x xs' v vs h1 h2=>
  cases h2 with
  | nil=>exact h1
  | @cons y ys u us' h3 h4=>exact ⟨(v::u::us').toArray,rfl,.cons h1 (.cons h3 h4)⟩
theorem unpack_ok {W2 W3:Wit} (h:Rel B st a w W3) {d s:Nat} (hd:d<B.nt) (hs:s=st.nextStamp d) {mt:Nat→Option Nat} (htag:∀t t',mt t=some t'→∀b,W2.F (tg t) b→W3.F (tg t') b)
 (hdet:∀b k,W2.own b=some (.det k)→W3.own b=some (.det k)) {res:Res} {us:List Value} (hr:ResR w W2 0 res us) {q:List (Bool×List RV)×List CV} (e:compsIn d s mt res []=some q):
 ∃W',Rel B ((st.newRows d q.2).setSl d (resSV q.1)) (a.put (some d) (retVal us)) w W':=by
 obtain ⟨xs,acc⟩:=q
 obtain ⟨accv,k1,_,_,k2⟩:=compsIn_ok (accv:=[]) htag hdet res us hr rfl Dets.nil e
 cases acc with
 | nil=>exact ⟨W3,h.put hd (comps_sv (k2 W3 st.L ⟨rfl,fun hne=>absurd rfl hne⟩))⟩
 | cons x acc=>
  obtain ⟨W',h1,h2,h3,h4,_,_⟩:=newObj_ok h (d:=d) (mem:=false) (ag:=false) k1 (b0:=0) (fun hm=>Bool.noConfusion hm)
  refine ⟨W',h1.put hd (comps_sv (k2 W' _ ⟨h3,fun _=>⟨_,newObj_L _ _ _ _ _,?_,[],by rw [h4];simp⟩⟩))⟩
  rw [hs]
  exact Nat.le_refl _
theorem unpackVar_ok {W2 W3:Wit} (h:Rel B st a w W3) {d:Nat} (hd:d<B.nt) {mt:Nat→Option Nat} (htag:∀t t',mt t=some t'→∀b,W2.F (tg t) b→W3.F (tg t') b) {st2:St} {a2:Act} {B2:Base} (h2:Rel B2 st2 a2 w W2)
 {o:Nat} {ob:Obj} {cs cs':List CV} (hL:st2.L o=some ob) (hm:ob.mem=true) (hf:ob.fz=false) (hg:goneFree ob.cs=some cs) (hcs:mapCV mt cs=some cs') (hroot:∀b,W2.own b=some (.root o)→W3.own b=some (.root d))
 (hcell:∀b c,W2.own b=some (.cell o c)→W3.own b=some (.det c)):
 ∃W',Rel B ((st.newObj d true ob.ag cs').1.setSl d (.v false [.mp d (st.newObj d true ob.ag cs').2.1 0])) (a.put (some d) (.pointer (some ⟨W2.blk o,0,none⟩))) w W':=by
 have ho:=h2.objs o ob hL
 obtain ⟨arr,T,fr,k1,k2,k3,k4,k5⟩:=ho.mem hm
 have hgf:cs.length=ob.cs.length∧∀(c:Nat) y,cs[c]?=some y→∃x,ob.cs[c]?=some x∧(x.m= .imm∨x.m= .sh)∧y=⟨x.m,tagOf x.t x.a,x.a⟩:=by
  unfold goneFree at hg
  split at hg
  ·rename_i hall
   cases hg
   refine ⟨by simp,fun c y hy=>?_⟩
   rw [List.getElem?_map] at hy
   obtain ⟨x,hx,rfl⟩:=Option.map_eq_some_iff.1 hy
   have:=List.all_eq_true.1 hall x (List.mem_of_getElem? hx)
   exact ⟨x,hx,by revert this;cases x.m<;>simp,rfl⟩
  ·cases hg
 obtain ⟨m1,m2⟩:=mapCV_get hcs
 have hD:Dets w W3 0 cs' (W2.vals o):=by
  refine ⟨by rw [m1,hgf.1,ho.len],fun i x v hx hv=>?_⟩
  obtain ⟨y,hy,q1,q2,q3⟩:=m2 i x hx
  obtain ⟨z,hz,hzg,rfl⟩:=hgf.2 i y hy
  have hok:=ho.cells i z v hz hv
  obtain ⟨m,s,t,a0⟩:=z
  obtain ⟨m',t',a'⟩:=x
  simp only at q1 q2 q3 hzg
  subst q1 q2
  cases m with
  | gone=>exact absurd hzg (by simp)
  | dp _=>exact absurd hzg (by simp)
  | dd _ _ _=>exact absurd hzg (by simp)
  | imm=>
   show CRi w (W3.F (tg (tagOf t' a0))) [a0] [v]
   cases a0 with
   | sc u=>cases hok with | sc hp _=>exact .sc hp .nil
   | _=>exact CRi.mono (fun b hb=>⟨htag _ _ q3 b hb,rfl⟩) hok
  | sh=>
   cases a0 with
   | row sz es=>
    obtain ⟨p1,p2⟩:=hok
    exact ⟨sz,es,W2.fp o i,rfl,p1.mono (fun b hb=>⟨htag _ _ q3 b hb,rfl⟩) (fun _ _=>rfl),fun b hb=>by
     have:=hcell b i (p2 b hb)
     simpa using this⟩
   | _=>exact hok.elim
 obtain ⟨W',h1,h3,h4,h5,h6,h7⟩:=newObj_ok h (d:=d) (mem:=true) (ag:=ob.ag) hD (b0:=W2.blk o) (fun _=>⟨hroot _ (k4 hf),T,fr,by rw [k1,←k2],fun i hi=>k3 i (by rw [←k2] at hi;simpa using hi)⟩)
 refine ⟨W',h1.put hd (.inr ⟨rfl,_,rfl,?_⟩)⟩
 refine ⟨_,newObj_L _ _ _ _ _,Nat.le_refl _,fun _=>⟨rfl,?_⟩⟩
 rw [h6 rfl]
end
end
end Go.Sim
