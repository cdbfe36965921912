/- Regions: whatever the order in which their operations run. Conditions: none. -/
import Derived.Test.YtngbehdgjocndaaGreatSimOb
namespace Go.Sim
variable [Lim]
open Classical
set_option linter.unusedSimpArgs false
set_option linter.unusedVariables false
noncomputable section
def Sch.heads:Sch→List Nat
 | .fork i _ r=>i::r.heads
 | _=>[]
def Sch.good (ops:Array Oper):Sch→Nat→Array Bool→Bool→Bool
 | .done,_,listed,inF=>!inF&&(Region.ready .any ops listed).isEmpty
 | .first _ _ _ _,0,_,_=>false
 | .first i ws us t,fuel+1,listed,inF=>!inF&&(Region.ready .any ops listed).contains i&&
  (match ops[i]? with
  | some oi=>BZ oi.op&&oi.dst.isSome&&
   (ws.all fun j=>!listed.getD j true&&match ops[j]? with | some oj=>oj.after.any fun e=>Region.binds .any e&&(e.on==i||ws.contains e.on) | none=>false)&&
   ((List.range ops.size).all fun j=>j==i||listed.getD j true||ws.contains j||(us.contains j&&match ops[j]? with | some oj=>oi.apart ops oj | none=>true))
  | none=>false)&&
  t.good ops fuel (listed.setIfInBounds i true) false
 | .fork i t r,0,_,_=>false
 | .fork i t r,fuel+1,listed,inF=>(inF||Region.ready .any ops listed==i::r.heads)&&t.good ops fuel (listed.setIfInBounds i true) false&&r.good ops (fuel+1) listed true
 | .stop,_,_,inF=>inF
section
variable {P:Program} {cfg:Cfg} {aY:FuncId→List Arg→Option (Res×List Out)} {B:Base} {st st':St} {a:Act} {w:World} {W:Wit} {o:Oper} {nt f:Nat} {ops:Array Oper}
theorem abR (h:Rel B st a w W) {j:Nat} {y:Option Bool} (e:yields ops st j=some y):yielded ops a.tmps j=y:=by
 unfold yields at e
 unfold yielded
 cases hd:(ops[j]?).bind (·.dst) with
 | none=>
  rw [hd] at e
  cases e
  rfl
 | some d=>
  rw [hd] at e
  simp only at e
  have hs:=h.slots d
  rw [Array.getD_eq_getD_getElem?] at hs
  simp only [Option.bind_some]
  have hb:∀{b:Bool},(st.sl d).bool? =some b→(match a.tmps[d]? with | some (.bool b)=>some b | _=>none)=some b:=by
   intro b hb
   have:=PS hb hs
   cases hx:a.tmps[d]? with
   | none=>rw [hx] at this;cases this
   | some v=>rw [hx] at this;simp at this;subst this;rfl
  split at e
  ·rename_i ht
   cases e
   rw [ht] at hs
   obtain ⟨vs,hv,hc⟩:=hs
   cases hx:a.tmps[d]? with
   | none=>rfl
   | some v=>rw [hx] at hv;simp at hv;subst hv;rfl
  ·obtain ⟨b,h1,h2⟩:=Option.map_eq_some_iff.1 e
   subst h2
   exact hb h1
theorem adD {L:Nat→Option Obj}:SR w W L (.tup []) undef:=⟨#[],rfl,.nil⟩
def P8 (P:Program) (cfg:Cfg) (aY:FuncId→List Arg→Option (Res×List Out)) (B:Base):Prop:=
 ∀(o:Oper) (st st':St) (a:Act) (w:World) (W:Wit),Rel B st a w W→aH P cfg aY B.nt o st=some st'→Good P B o st' a w
theorem ajl {st1:St} (h:Rel B st1 a w W) {ks:List (Option Nat)} {dst:Option Tmp} {l:List Nat} (e:(match dst with | some d=>bif l.any (·.beq d) then st1.vV ks d else st1 | none=>st1)=st'):∃W',Rel B st' a w W':=by
 cases dst with
 | none=>cases e;exact ⟨W,h⟩
 | some d=>
  simp only at e
  cases hb:l.any (·.beq d) with
  | true=>rw [hb] at e;cases e;exact adu h ks d
  | false=>rw [hb] at e;cases e;exact ⟨W,h⟩
theorem ZU (hop:P8 P cfg aY B) (hn:nt=B.nt) (h:Rel B st a w W) {i:Nat} (e:oV P cfg aY f nt ops i st=some st') (K:Act→World→Prop) (Q:Exit→Act→World→Prop)
 (hK:∀a' w' W',Rel B st' a' w' W'→K a' w'):wpOp P ops Q i K a w:=by
 subst hn
 unfold oV at e
 unfold wpOp
 cases hi:ops[i]? with
 | none=>rw [hi] at e;cases e;exact hK _ _ _ h
 | some o=>
  rw [hi] at e
  simp only at e ⊢
  have go:((aH P cfg aY B.nt o st).map fun st=>match o.dst with | some d=>bif (cfg.fc f).frz.any (·.beq d) then st.vV ((fC P o.type).getD []) d else st | none=>st)=some st'→o.wp P a w K Q:=by
   intro e
   obtain ⟨st1,h1,h2⟩:=Option.map_eq_some_iff.1 e
   refine hop o st st1 a w W h h1 K Q fun a' w' W' hr=>?_
   obtain ⟨W2,hr2⟩:=ajl hr h2
   exact hK _ _ _ hr2
  cases hg:o.guard with
  | none=>
   rw [hg] at e
   have:Region.wanted o (yielded ops a.tmps)=true:=by unfold Region.wanted;rw [hg]
   rw [if_pos this]
   exact .inl (go e)
  | some p=>
   obtain ⟨j,want⟩:=p
   rw [hg] at e
   obtain ⟨y,hy,e⟩:=Option.bind_eq_some_iff.1 e
   have hyy:=abR h hy
   by_cases hw:y=some want
   ·have:Region.wanted o (yielded ops a.tmps)=true:=by unfold Region.wanted;rw [hg];simp only;rw [hyy,hw];simp
    rw [if_pos this]
    rw [if_pos hw] at e
    exact .inl (go e)
   ·have:¬Region.wanted o (yielded ops a.tmps)=true:=by unfold Region.wanted;rw [hg];simp only;rw [hyy];simpa using hw
    rw [if_neg this]
    rw [if_neg hw] at e
    cases hd:o.dst with
    | none=>rw [hd] at e;cases e;exact hK _ _ _ h
    | some d=>
     rw [hd] at e
     simp only at e
     split at e
     ·rename_i hlt
      cases e
      exact hK _ _ _ (h.put (zi hlt) adD)
     ·cases e
theorem Xe (hop:P8 P cfg aY B) (hn:nt=B.nt) (Q:Exit→Act→World→Prop):∀(l:List Nat) {st:St} {a:Act} {w:World} {W:Wit},Rel B st a w W→KH P cfg aY f nt ops l st=some st'→
 (∀a' w' W',Rel B st' a' w' W'→Q .normal a' w')→wpOps P ops Q l a w
 | [],st,a,w,W,h,e,hQ=>by
  cases e
  exact hQ _ _ _ h
 | i::l,st,a,w,W,h,e,hQ=>by
  rw [wpOps_cons]
  obtain ⟨st1,h1,h2⟩:=Option.bind_eq_some_iff.1 e
  exact ZU hop hn h h1 _ Q fun a' w' W' hr=>Xe hop hn Q l hr h2 hQ
theorem GR (h:Rel B st a w W) (k:Option (List Nat×List Nat)):Rel B (st.xR k) a w W:=by
 cases k with
 | none=>exact h
 | some k=>exact ZQ h k
def Cc (P:Program) (cfg:Cfg) (aY:FuncId→List Arg→Option (Res×List Out)) (f nt:Nat) (ops:Array Oper) (k:Option (List Nat×List Nat)) (κ:List (List Nat×List Nat)):Nat→Array Bool→St→St→Prop
 | 0,listed,st,X=>Region.ready .any ops listed=[]∧st.xR k=X
 | n+1,listed,st,X=>(Region.ready .any ops listed=[]→st.xR k=X)∧
  ∀i∈Region.ready .any ops listed,∃s,oV P cfg aY f nt ops i st=some s∧kOK κ i st s∧Cc P cfg aY f nt ops k κ n (listed.setIfInBounds i true) s X
omit [Lim] in
theorem P9 {st s:St} (h:s.L=st.L) (i:Nat):∀κ:List (List Nat×List Nat),kOK κ i st s
 | []=>trivial
 | (us,O)::κ=>⟨fun _=>by
     induction O with
     | nil=>trivial
     | cons b O ih=>exact ⟨by rw [h],ih⟩,P9 h i κ⟩
omit [Lim] in
theorem aiu {st s st' s':St} (h1:st'.L=st.L) (h2:s'.L=s.L) {i:Nat}:∀{κ:List (List Nat×List Nat)},kOK κ i st s→kOK κ i st' s'
 | [],_=>trivial
 | (us,O)::κ,h=>⟨fun hu=>by
     have:=h.1 hu
     clear h
     induction O with
     | nil=>trivial
     | cons b O ih=>exact ⟨by rw [h1,h2];exact this.1,ih this.2⟩,aiu h1 h2 h.2⟩
omit [Lim] in
theorem TZ {st s:St}:∀{O:List Nat},ZK st s O→∀b∈O,s.L b=st.L b
 | b::O,h,x,hx=>by
  rcases List.mem_cons.1 hx with rfl | hx
  ·exact h.1
  ·exact TZ h.2 x hx
theorem Ua (hop:P8 P cfg aY B) (hn:nt=B.nt) {k:Option (List Nat×List Nat)} {κ:List (List Nat×List Nat)} {Q:Exit→Act→World→Prop} {X:St} (hQ:∀a' w' W',Rel B X a' w' W'→Q .normal a' w'):
 ∀(n:Nat) {listed:Array Bool} {st:St} {a:Act} {w:World} {W:Wit},Cc P cfg aY f nt ops k κ n listed st X→Rel B st a w W→wpAny P .any ops Q n listed a w
 | 0,listed,st,a,w,W,h,hr=>⟨h.1,hQ _ _ _ (by rw [←h.2];exact GR hr k)⟩
 | n+1,listed,st,a,w,W,h,hr=>by
  refine ⟨fun he=>hQ _ _ _ (by rw [←h.1 he];exact GR hr k),fun i hi=>?_⟩
  obtain ⟨s,h1,_,h2⟩:=h.2 i hi
  exact ZU hop hn hr h1 _ Q fun a' w' W' hr'=>Ua hop hn hQ n h2 hr'
omit [Lim] in
theorem JH {l:List Nat} {ops:Array Oper} {i:Nat} {oi:Oper} (hf:BB l ops.toList=true) (hi:ops[i]?=some oi) (s:St):(match oi.dst with | some d=>bif l.any (·.beq d) then s.vV ((fC P oi.type).getD []) d else s | none=>s)=s:=by
 cases hd:oi.dst with
 | none=>rfl
 | some d=>
  have:l.any (·.beq d)=false:=by
   rcases Bool.or_eq_true _ _ ▸ hf with h | h
   ·rw [List.isEmpty_iff.1 h];rfl
   ·have:=List.all_eq_true.1 h oi (by rw [Array.mem_toList_iff];exact Array.mem_of_getElem? hi)
    rw [hd] at this
    simpa using this
  simp only [this,cond]
omit [Lim] in
theorem ZV {i:Nat} {oi:Oper} (hf:BB (cfg.fc f).frz ops.toList=true) (hi:ops[i]?=some oi) {g:Nat→SV} (h:∀t∈oi.looksAt ops,g t=st.sl t):
 oV P cfg aY f nt ops i (st.ws g)=(oV P cfg aY f nt ops i st).map (jJ oi.dst g):=by
 have hops:∀x∈oi.op.operands,(st.ws g).get x=st.get x:=fun x hx=>ajj fun t e=>h t (by
  subst e
  exact List.mem_append_left _ (List.mem_filterMap.2 ⟨.tmp t,by simpa using hx,rfl⟩))
 unfold oV
 rw [hi]
 simp only
 have go:((aH P cfg aY nt oi (st.ws g)).map fun st=>match oi.dst with | some d=>bif (cfg.fc f).frz.any (·.beq d) then st.vV ((fC P oi.type).getD []) d else st | none=>st)=
  ((aH P cfg aY nt oi st).map fun st=>match oi.dst with | some d=>bif (cfg.fc f).frz.any (·.beq d) then st.vV ((fC P oi.type).getD []) d else st | none=>st).map (jJ oi.dst g):=by
  rw [agr hops]
  have id1:(fun st:St=>match oi.dst with | some d=>bif (cfg.fc f).frz.any (·.beq d) then st.vV ((fC P oi.type).getD []) d else st | none=>st)=id:=by
   funext s
   exact JH hf hi s
  rw [id1]
  simp only [Option.map_id,id]
 cases hg:oi.guard with
 | none=>exact go
 | some p=>
  obtain ⟨j,want⟩:=p
  simp only
  have hy:yields ops (st.ws g) j=yields ops st j:=by
   unfold yields
   cases hd:(ops[j]?).bind (·.dst) with
   | none=>rfl
   | some d=>
    have e:(st.ws g).sl d=st.sl d:=h d (by simp [Oper.looksAt,hg,hd])
    simp only [e]
  rw [hy]
  cases yields ops st j with
  | none=>rfl
  | some y=>
   simp only [Option.bind_some]
   by_cases hw:y=some want
   ·simp only [if_pos hw];exact go
   ·simp only [if_neg hw]
    cases oi.dst with
    | none=>rfl
    | some d=>
     simp only
     split
     ·simp only [Option.map_some,xX]
     ·rfl
omit [Lim] in
theorem agt {i:Nat} {oi:Oper} (hf:BB (cfg.fc f).frz ops.toList=true) (hi:ops[i]?=some oi) {s:St} (e:oV P cfg aY f nt ops i st=some s):∀t,oi.dst≠some t→s.sl t=st.sl t:=by
 intro t ht
 have h:=ZV (P:=P) (cfg:=cfg) (aY:=aY) (nt:=nt) (st:=st) hf hi (g:=st.sl) fun _ _=>rfl
 have e1:st.ws st.sl=st:=rfl
 rw [e1,e] at h
 simp only [Option.map_some,Option.some.injEq] at h
 rw [h]
 unfold jJ
 cases hd:oi.dst with
 | none=>rfl
 | some d=>
  have:t≠d:=fun e=>ht (by rw [hd,e])
  simp only [St.ws,upd_ne _ _ this]
omit [Lim] in
theorem ajm {dst:Option Tmp} {g:FuncId} {xs:List (TypeId×SV)} {s:St} (hp:∀j,j<xs.length→cfg.par g j= .cst false∨∃n,cfg.par g j= .cut n) (e:st.call P cfg aY dst g xs=some s):∀b,dst≠some b→s.L b=st.L b:=by
 have anS:∀(xs:List (TypeId×SV)) (j:Nat) {q:List (Option Arg)×St},(∀i,i<xs.length→cfg.par g (j+i)= .cst false∨∃n,cfg.par g (j+i)= .cut n)→st.wS P cfg g j xs=some q→q.2=st:=by
  intro xs
  induction xs with
  | nil=>intro j q _ e;cases e;rfl
  | cons x xs ih=>
   intro j q hp e
   obtain ⟨t,x⟩:=x
   simp only [St.wS] at e
   have h0:=hp 0 (by simp)
   rw [Nat.add_zero] at h0
   have e0:st.SE (cfg.par g j) ((fC P t).getD []) x=some (none,st):=by
    rcases h0 with h0 | ⟨n,h0⟩<;>rw [h0]<;>cases x<;>rfl
   rw [e0] at e
   simp only [Option.bind_some] at e
   obtain ⟨q',h1,h2⟩:=Option.map_eq_some_iff.1 e
   subst h2
   show q'.2=st
   exact ih (j+1) (fun i hi=>by have:=hp (i+1) (by simpa using hi);rwa [show j+(i+1)=j+1+i by omega] at this) h1
 have anT:∀(xs:List (TypeId×SV)) (as:List (Option Arg)) (j:Nat) {q:Pn},(∀i,i<xs.length→cfg.par g (j+i)= .cst false∨∃n,cfg.par g (j+i)= .cut n)→st.vX P cfg g j xs as=some q→q.iZ=[]:=by
  intro xs
  induction xs with
  | nil=>intro as j q _ e;cases as<;>cases e;rfl
  | cons x xs ih=>
   intro as j q hp e
   obtain ⟨t,x⟩:=x
   cases as with
   | nil=>cases e
   | cons a as=>
    simp only [St.vX] at e
    have h0:=hp 0 (by simp)
    rw [Nat.add_zero] at h0
    obtain ⟨p,h1,e⟩:=Option.bind_eq_some_iff.1 e
    obtain ⟨q',h2,h3⟩:=Option.map_eq_some_iff.1 e
    subst h3
    have hl:p.iZ=[]:=by
     unfold St.see at h1
     cases a with
     | some a=>cases h1;rfl
     | none=>
      rcases h0 with h0 | ⟨n,h0⟩<;>rw [h0] at h1
      ·cases x with
       | v ag cs=>obtain ⟨y,_,h⟩:=Option.map_eq_some_iff.1 h1;subst h;rfl
       | fn f cs=>obtain ⟨y,_,h⟩:=Option.map_eq_some_iff.1 h1;subst h;rfl
       | tup vs=>cases h1
      ·cases x with
       | v ag cs=>obtain ⟨y,_,h⟩:=Option.map_eq_some_iff.1 h1;subst h;rfl
       | fn f cs=>cases h1
       | tup vs=>cases h1
    simp only [hl,List.nil_append]
    exact ih as (j+1) (fun i hi=>by have:=hp (i+1) (by simpa using hi);rwa [show j+(i+1)=j+1+i by omega] at this) h2
 unfold St.call at e
 replace e:=Option.or_eq_some_iff.1 e
 rcases e with e | ⟨-,e⟩
 rotate_left
 ·split at e
  ·rename_i SG
   rcases hp 0 (by simp) with h | ⟨n,h⟩
   ·rw [h] at SG;cases SG
   ·rw [h] at SG;cases SG
  ·cases e
 unfold St.wB at e
 obtain ⟨pre,e1,e⟩:=Option.bind_eq_some_iff.1 e
 obtain ⟨p,e2,e⟩:=Option.bind_eq_some_iff.1 e
 split at e
 ·cases e
 ·obtain ⟨r,e3,e5⟩:=Option.bind_eq_some_iff.1 e
  have hq:=anS xs 0 (fun i hi=>by rw [Nat.zero_add];exact hp i hi) e1
  rw [hq] at e2 e5
  have upk:∀{mt:Nat→Option Nat} {res:Res} {s1:St},s1.unpack dst mt res=some s→∀b,dst≠some b→s.L b=s1.L b:=by
   intro mt res s1 e6 b hb
   unfold St.unpack at e6
   cases dst with
   | none=>cases e6;rfl
   | some d=>
    have hne:b≠d:=fun e=>hb (by rw [e])
    simp only at e6
    split at e6
    ·obtain ⟨cs,_,h⟩:=Option.map_eq_some_iff.1 e6
     subst h
     simp only [St.cZ,St.newObj,upd_ne _ _ hne]
    ·obtain ⟨q,_,h⟩:=Option.map_eq_some_iff.1 e6
     subst h
     simp only [St.cZ]
     cases q.2 with
     | nil=>rfl
     | cons c cs=>simp only [St.Dw,St.newObj,upd_ne _ _ hne]
  split at e5
  ·obtain ⟨q,_,e5⟩:=Option.bind_eq_some_iff.1 e5
   exact upk e5
  split at e5
  ·obtain ⟨q,_,e5⟩:=Option.bind_eq_some_iff.1 e5
   obtain ⟨d,hd,e5⟩:=Option.map_eq_some_iff.1 e5
   subst e5
   intro b hb
   rfl
  obtain ⟨s1,e4,e6⟩:=Option.bind_eq_some_iff.1 e5
  have hl:=anT xs pre.1 0 (fun i hi=>by rw [Nat.zero_add];exact hp i hi) e2
  rw [hl] at e4
  have hs1:s1=st:=by
   cases ho:r.2 with
   | nil=>rw [ho] at e4;cases e4;rfl
   | cons _ _=>rw [ho] at e4;cases e4
  subst hs1
  exact upk e6
omit [Lim] in
theorem take_zero {cs:List RV} (h:∀r∈cs,(∃t a,r= .im t a)∨r= .nil):∀{st:St} {ks:List (Option Nat)} {p:List CV×St},st.fF ks cs=some p→p.2=st:=by
 induction cs with
 | nil=>intro st ks p e;cases e;rfl
 | cons r cs ih=>
  intro st ks p e
  simp only [St.fF] at e
  obtain ⟨x,h1,e⟩:=Option.bind_eq_some_iff.1 e
  obtain ⟨y,h2,e⟩:=Option.map_eq_some_iff.1 e
  subst e
  have hx:x.2=st:=by
   rcases h r (by simp) with ⟨t,a,rfl⟩ | rfl
   ·cases h1;rfl
   ·cases h1;rfl
  rw [hx] at h2
  show y.2=st
  exact ih (fun r hr=>h r (by simp [hr])) h2
omit [Lim] in
theorem adE {cs:List RV} (h:∀r∈cs,(∃t a,r= .im t a)∨r= .nil):∀{st:St} {ks:List (Option Nat)} {p:Nat×List AV×St},st.iM ks cs=some p→p.2.2=st:=by
 induction cs with
 | nil=>intro st ks p e;cases e;rfl
 | cons r cs ih=>
  intro st ks p e
  simp only [St.iM] at e
  obtain ⟨x,h1,e⟩:=Option.bind_eq_some_iff.1 e
  obtain ⟨y,h2,e⟩:=Option.map_eq_some_iff.1 e
  subst e
  have hx:x.2.2=st:=by
   unfold St.fix at h1
   obtain ⟨z,_,h1⟩:=Option.map_eq_some_iff.1 h1
   subst h1
   rcases h r (by simp) with ⟨t,a,rfl⟩ | rfl<;>rfl
  rw [hx] at h2
  show y.2.2=st
  exact ih (fun r hr=>h r (by simp [hr])) h2
omit [Lim] in
theorem Qa {t:TypeId} {cs:List RV} (e:zeroCells P t=some cs):∀r∈cs,(∃t a,r= .im t a)∨r= .nil:=by
 unfold zeroCells at e
 obtain ⟨z,_,e⟩:=Option.bind_eq_some_iff.1 e
 intro r hr
 have key:∀(l:List Value) (cs:List RV),l.mapM (fun v=>if plain v then some (RV.im 0 (.sc v)) else if BX v then some .nil else none)=some cs→∀r∈cs,(∃t a,r= .im t a)∨r= .nil:=by
  intro l
  induction l with
  | nil=>intro cs e r hr;simp at e;subst e;cases hr
  | cons v l ih=>
   intro cs e r hr
   simp only [List.mapM_cons,Option.pure_def,Option.bind_eq_bind,Option.bind_eq_some_iff] at e
   obtain ⟨x,hx,ys,hys,e⟩:=e
   cases e
   rcases List.mem_cons.1 hr with rfl | hr
   ·split at hx
    ·cases hx;exact .inl ⟨_,_,rfl⟩
    ·split at hx
     ·cases hx;exact .inr rfl
     ·cases hx
   ·exact ih _ hys r hr
 exact key _ _ e r hr
omit [Lim] in
theorem ajn {oj:Oper} (hs:PI cfg oj=true) {s:St} (e:aH P cfg aY nt oj st=some s):∀b,oj.dst≠some b→s.L b=st.L b:=by
 intro b hb
 unfold PI at hs
 rw [Bool.or_eq_true] at hs
 rcases hs with hs | hs
 ·obtain ⟨v,h1,_⟩:=Xd hs e
  unfold adC at h1
  cases hd:oj.dst with
  | none=>rw [hd] at h1;cases h1;rfl
  | some d=>
   rw [hd] at h1
   simp only at h1
   split at h1
   ·cases h1;rfl
   ·cases h1
 ·split at hs
  ·rename_i t ho
   simp only [aH,ho] at e
   obtain ⟨d,hd,e⟩:=Option.bind_eq_some_iff.1 e
   split at e
   ·obtain ⟨cs,hcs,e⟩:=Option.bind_eq_some_iff.1 e
    obtain ⟨ks,_,e⟩:=Option.bind_eq_some_iff.1 e
    obtain ⟨⟨xs,s1⟩,h1,e2⟩:=Option.map_eq_some_iff.1 e
    have h2:s1=st:=take_zero (Qa hcs) h1
    subst h2
    rw [←e2]
    have hne:b≠d:=fun h=>hb (by rw [hd,h])
    simp only [St.cZ,St.newObj,upd_ne _ _ hne]
   ·cases e
  ·rename_i t n c ho
   simp only [aH,ho] at e
   obtain ⟨d,hd,e⟩:=Option.bind_eq_some_iff.1 e
   split at e
   ·obtain ⟨⟨el,sz⟩,_,e⟩:=Option.bind_eq_some_iff.1 e
    obtain ⟨zs,hzs,e⟩:=Option.bind_eq_some_iff.1 e
    split at e
    ·cases e
    ·obtain ⟨ks,_,e⟩:=Option.bind_eq_some_iff.1 e
     obtain ⟨⟨_,n1⟩,_,e⟩:=Option.bind_eq_some_iff.1 e
     obtain ⟨⟨_,c1⟩,_,e⟩:=Option.bind_eq_some_iff.1 e
     obtain ⟨n2,_,e⟩:=Option.bind_eq_some_iff.1 e
     split at e
     ·obtain ⟨⟨tg,as,s1⟩,h1,e⟩:=Option.bind_eq_some_iff.1 e
      obtain ⟨z,_,e2⟩:=Option.map_eq_some_iff.1 e
      have h2:s1=st:=adE (Qa hzs) h1
      subst h2
      rw [←e2]
      have hne:b≠d:=fun h=>hb (by rw [hd,h])
      simp only [St.cZ,St.newObj,upd_ne _ _ hne]
     ·cases e
   ·cases e
  ·rename_i c ho
   split at hs
   ·rename_i g hc
    simp only [aH,ho,hc] at e
    have hg:st.get (.func g)= .fn g []:=rfl
    rw [hg] at e
    simp only at e
    split at e
    ·rename_i hcond
     simp only [Bool.and_eq_true] at hcond
     refine ajm (fun j hj=>?_) e b hb
     have hlen:j<c.args.size:=by
      have h1:=Nat.eq_of_beq_eq_true hcond.1
      simp only [List.map_nil,List.append_nil,List.length_zip,List.length_map,Array.length_toList] at hj
      omega
     have:=List.all_eq_true.1 hs j (List.mem_range.2 hlen)
     split at this
     ·exact .inl ‹_›
     ·exact .inr ⟨_,‹_›⟩
     ·cases this
    ·cases e
   ·cases hs
  ·cases hs
omit [Lim] in
theorem ajo {j:Nat} {oj:Oper} (hf:BB (cfg.fc f).frz ops.toList=true) (hj:ops[j]?=some oj) (hs:PI cfg oj=true) {s:St} (e:oV P cfg aY f nt ops j st=some s):∀b,oj.dst≠some b→s.L b=st.L b:=by
 intro b hb
 unfold oV at e
 rw [hj] at e
 simp only at e
 have go:((aH P cfg aY nt oj st).map fun st=>match oj.dst with | some d=>bif (cfg.fc f).frz.any (·.beq d) then st.vV ((fC P oj.type).getD []) d else st | none=>st)=some s→s.L b=st.L b:=by
  intro e
  obtain ⟨s1,h1,h2⟩:=Option.map_eq_some_iff.1 e
  rw [JH hf hj] at h2
  have:s1=s:=h2
  subst this
  exact ajn hs h1 b hb
 cases hg:oj.guard with
 | none=>rw [hg] at e;exact go e
 | some p=>
  obtain ⟨q,want⟩:=p
  rw [hg] at e
  obtain ⟨y,hy,e⟩:=Option.bind_eq_some_iff.1 e
  by_cases hw:y=some want
  ·rw [if_pos hw] at e;exact go e
  ·rw [if_neg hw] at e
   cases hd:oj.dst with
   | none=>rw [hd] at e;cases e;rfl
   | some d=>
    rw [hd] at e
    simp only at e
    split at e
    ·cases e;rfl
    ·cases e
omit [Lim] in
theorem Ub {i:Nat} {oi:Oper} {d:Nat} (hf:BB (cfg.fc f).frz ops.toList=true) (hi:ops[i]?=some oi) (hk:BZ oi.op=true) (hd:oi.dst=some d) {st':St} (e:oV P cfg aY f nt ops i st=some st'):
 ∃v,st'=st.cZ d v∧∀s:St,(∀t∈oi.looksAt ops,s.sl t=st.sl t)→(∀x∈watch oi.op,∀b∈(st.get x).iJ,s.L b=st.L b)→oV P cfg aY f nt ops i s=some (s.cZ d v):=by
 have gets:∀{s:St},(∀t∈oi.looksAt ops,s.sl t=st.sl t)→∀x∈oi.op.operands,s.get x=st.get x:=by
  intro s h x hx
  cases x with
  | tmp t=>exact h t (List.mem_append_left _ (List.mem_filterMap.2 ⟨.tmp t,by simpa using hx,rfl⟩))
  | _=>rfl
 have id1:∀s:St,(match oi.dst with | some d=>bif (cfg.fc f).frz.any (·.beq d) then s.vV ((fC P oi.type).getD []) d else s | none=>s)=s:=fun s=>JH hf hi s
 have go:∀{st':St},((aH P cfg aY nt oi st).map fun st=>match oi.dst with | some d=>bif (cfg.fc f).frz.any (·.beq d) then st.vV ((fC P oi.type).getD []) d else st | none=>st)=some st'→
  ∃v,st'=st.cZ d v∧∀s:St,(∀t∈oi.looksAt ops,s.sl t=st.sl t)→(∀x∈watch oi.op,∀b∈(st.get x).iJ,s.L b=st.L b)→
   ((aH P cfg aY nt oi s).map fun st=>match oi.dst with | some d=>bif (cfg.fc f).frz.any (·.beq d) then st.vV ((fC P oi.type).getD []) d else st | none=>st)=some (s.cZ d v):=by
  intro st' e
  simp only [id1] at e ⊢
  obtain ⟨s1,h1,h2⟩:=Option.map_eq_some_iff.1 e
  subst h2
  obtain ⟨v,h3,h4⟩:=Xd hk h1
  unfold adC at h3
  rw [hd] at h3
  simp only at h3
  split at h3
  ·rename_i hlt
   cases h3
   refine ⟨v,rfl,fun s q1 q2=>?_⟩
   rw [h4 s (gets q1) q2]
   simp only [adC,hd,hlt,if_true,Option.map_some]
  ·cases h3
 unfold oV at e ⊢
 rw [hi] at e ⊢
 simp only at e ⊢
 cases hg:oi.guard with
 | none=>rw [hg] at e;exact go e
 | some p=>
  obtain ⟨q,want⟩:=p
  rw [hg] at e
  simp only at e ⊢
  have ys:∀{s:St},(∀t∈oi.looksAt ops,s.sl t=st.sl t)→yields ops s q=yields ops st q:=by
   intro s h
   unfold yields
   cases hdq:(ops[q]?).bind (·.dst) with
   | none=>rfl
   | some dq=>
    have e:s.sl dq=st.sl dq:=h dq (by simp [Oper.looksAt,hg,hdq])
    simp only [e]
  obtain ⟨y,hy,e⟩:=Option.bind_eq_some_iff.1 e
  by_cases hw:y=some want
  ·rw [if_pos hw] at e
   obtain ⟨v,h1,h2⟩:=go e
   refine ⟨v,h1,fun s q1 q2=>?_⟩
   rw [ys q1,hy]
   simp only [Option.bind_some,if_pos hw]
   exact h2 s q1 q2
  ·rw [if_neg hw,hd] at e
   simp only at e
   split at e
   ·rename_i hlt
    cases e
    refine ⟨.tup [],rfl,fun s q1 q2=>?_⟩
    rw [ys q1,hy]
    simp only [Option.bind_some,if_neg hw,hd,hlt,if_true]
   ·cases e
omit [Lim] in
theorem GU {k:Option (List Nat×List Nat)} {κ κ':List (List Nat×List Nat)} (hκ:∀(i:Nat) (st s:St),kOK κ' i st s→kOK κ i st s) {X:St}:∀(n:Nat) {listed:Array Bool} {st:St},Cc P cfg aY f nt ops k κ' n listed st X→Cc P cfg aY f nt ops k κ n listed st X
 | 0,_,_,h=>h
 | n+1,_,_,h=>⟨h.1,fun i hi=>by
  obtain ⟨s,h1,h2,h3⟩:=h.2 i hi
  exact ⟨s,h1,hκ _ _ _ h2,GU hκ n h3⟩⟩
omit [Lim] in
theorem Uc {k:Option (List Nat×List Nat)} {κ κ':List (List Nat×List Nat)} (hκ:∀(i:Nat) (st s:St),kOK κ' i st s→kOK κ i st s) {X:St} {i:Nat} {oi:Oper} {d:Nat} {ws:List Nat} {O:List Nat} {v:SV} (hf:BB (cfg.fc f).frz ops.toList=true) (hi:ops[i]?=some oi) (hd:oi.dst=some d):
 ∀(n:Nat) {listed:Array Bool} {st:St},
  (∀j oj,ops[j]?=some oj→j≠i→listed.getD j true=false→j∉ws→oi.apart ops oj=true∧(O=[]∨(PI cfg oj=true∧∀b∈O,oj.dst≠some b)∨∀st s:St,kOK κ' j st s→∀b∈O,s.L b=st.L b))→
  (∀j∈ws,listed.getD j true=false∧∃oj,ops[j]?=some oj∧∃e∈oj.after,Region.binds .any e=true∧(e.on=i∨e.on∈ws))→
  i∈Region.ready .any ops listed→
  (∀s:St,(∀t∈oi.looksAt ops,s.sl t=st.sl t)→(∀b∈O,s.L b=st.L b)→oV P cfg aY f nt ops i s=some (s.cZ d v))→
  Cc P cfg aY f nt ops k κ' n (listed.setIfInBounds i true) (st.cZ d v) X→Cc P cfg aY f nt ops k κ (n+1) listed st X:=by
 intro n
 induction n with
 | zero=>
  intro listed st hc hws hr hs H
  refine ⟨fun h=>(by rw [h] at hr;cases hr),fun j hj=>?_⟩
  by_cases hji:j=i
  ·subst hji;exact ⟨_,hs st (fun _ _=>rfl) (fun _ _=>rfl),P9 (st:=st) (s:=st.cZ d v) rfl _ _,GU hκ _ H⟩
  ·have:=ready_mono hj hji
   rw [H.1] at this
   cases this
 | succ n ih=>
  intro listed st hc hws hr hs H
  refine ⟨fun h=>(by rw [h] at hr;cases hr),fun j hj=>?_⟩
  by_cases hji:j=i
  ·subst hji;exact ⟨_,hs st (fun _ _=>rfl) (fun _ _=>rfl),P9 (st:=st) (s:=st.cZ d v) rfl _ _,GU hκ _ H⟩
  ·obtain ⟨s',h1,h1k,h2⟩:=H.2 j (ready_mono hj hji)
   obtain ⟨hjun,oj,hoj,hall⟩:=mem_ready.1 hj
   have both:∀{x:Nat},listed.getD x true=false→listed.getD x false=false:=by
    intro x hx
    rcases Nat.lt_or_ge x listed.size with h' | h'
    ·simpa [h'] using hx
    ·simp [Array.getElem?_eq_none h'] at hx
   have hjw:j∉ws:=fun hm=>by
    obtain ⟨_,oj',ho',e,he,hb,hon⟩:=hws j hm
    rw [hoj] at ho';cases ho'
    have hl:=hall e he hb
    rcases hon with hon | hon
    ·rw [hon,both (mem_ready.1 hr).1] at hl;cases hl
    ·rw [both (hws _ hon).1] at hl;cases hl
   obtain ⟨hap,hO⟩:=hc j oj hoj hji hjun hjw
   obtain ⟨a1,a2,a3⟩:=Oper.apart_spec hap
   have hg:∀t∈oj.looksAt ops,(upd st.sl d v) t=st.sl t:=fun t ht=>upd_ne _ _ (fun e=>a1 d hd (by rw [←e];exact ht))
   have hw:=ZV (P:=P) (cfg:=cfg) (aY:=aY) (nt:=nt) (st:=st) hf hoj hg
   have e1:st.ws (upd st.sl d v)=st.cZ d v:=rfl
   rw [e1,h1] at hw
   obtain ⟨s,q1,q2⟩:=Option.map_eq_some_iff.1 hw.symm
   have hsl:=agt hf hoj q1
   have hs':s'=s.cZ d v:=by
    rw [←q2]
    show s.ws _=s.ws (upd s.sl d v)
    congr 1
    funext t
    cases hdj:oj.dst with
    | none=>
     simp only
     by_cases e:t=d
     ·subst e;simp only [upd_same]
     ·rw [upd_ne _ _ e,upd_ne _ _ e];exact (hsl t (by rw [hdj];intro h;cases h)).symm
    | some d'=>
     simp only
     have hne:d≠d':=fun e=>a2 d hd (by rw [hdj,e])
     by_cases e:t=d'
     ·subst e;rw [upd_same,upd_ne _ _ (Ne.symm hne)]
     ·rw [upd_ne _ _ e]
      by_cases e2:t=d
      ·subst e2;simp only [upd_same]
      ·rw [upd_ne _ _ e2,upd_ne _ _ e2];exact (hsl t (by rw [hdj];intro h;injection h with h;exact e h.symm)).symm
   subst hs'
   have hks:kOK κ' j st s:=aiu (st:=st.cZ d v) (s:=s.cZ d v) (st':=st) (s':=s) rfl rfl h1k
   refine ⟨s,q1,hκ _ _ _ hks,ih (listed:=listed.setIfInBounds j true) (st:=s) (fun x ox hox hxi hun hxw=>hc x ox hox hxi (by
    by_cases hjx:j=x
    ·subst hjx;exact hjun
    ·rwa [getD_set_ne true hjx] at hun) hxw) (fun x hx=>?_) (ready_mono hr (Ne.symm hji)) (fun s2 p1 p2=>?_) ?_⟩
   ·obtain ⟨w1,w2⟩:=hws x hx
    have:j≠x:=fun e=>hjw (by rw [e];exact hx)
    exact ⟨by rw [getD_set_ne true this];exact w1,w2⟩
   ·refine hs s2 (fun t ht=>?_) fun b hb=>?_
    ·rw [p1 t ht]
     refine hsl t fun e=>?_
     exact a3 t e ht
    ·rw [p2 b hb]
     rcases hO with hO | ⟨hO1,hO2⟩ | hO
     ·rw [hO] at hb;cases hb
     ·exact ajo hf hoj hO1 q1 b (hO2 b hb)
     ·exact hO _ _ hks b hb
   ·rw [Array.setIfInBounds_comm _ _ hji]
    exact h2
omit [Lim] in
theorem KT {k:Option (List Nat×List Nat)}:∀(sch:Sch) {κ:List (List Nat×List Nat)} {fuel:Nat} {listed:Array Bool} {inF:Bool} {st X:St},sch.good ops fuel listed inF=true→gp P cfg aY f nt ops k κ sch st=some X→
 (inF=false→Cc P cfg aY f nt ops k κ fuel listed st X)∧∀n,fuel=n+1→∀i∈sch.heads,∃s,oV P cfg aY f nt ops i st=some s∧kOK κ i st s∧Cc P cfg aY f nt ops k κ n (listed.setIfInBounds i true) s X
 | .done,κ,fuel,listed,inF,st,X,hg,e=>by
  simp only [Sch.good,Bool.and_eq_true] at hg
  simp only [gp,Option.some.injEq] at e
  have hr:=List.isEmpty_iff.1 hg.2
  refine ⟨fun _=>?_,fun n _ i hi=>by cases hi⟩
  cases fuel with
  | zero=>exact ⟨hr,e⟩
  | succ n=>exact ⟨fun _=>e,fun i hi=>by rw [hr] at hi;cases hi⟩
 | .first i ws us t,κ,fuel,listed,inF,st,X,hg,e=>by
  cases fuel with
  | zero=>cases hg
  | succ fuel=>
   simp only [Sch.good,Bool.and_eq_true] at hg
   obtain ⟨⟨⟨g0,g1⟩,g2⟩,g3⟩:=hg
   simp only [gp] at e
   refine ⟨fun _=>?_,fun n _ j hj=>by cases hj⟩
   cases hi:ops[i]? with
   | none=>rw [hi] at g2;cases g2
   | some oi=>
    rw [hi] at g2
    simp only [Bool.and_eq_true] at g2
    obtain ⟨⟨⟨hk,hds⟩,hws⟩,hus⟩:=g2
    obtain ⟨d,hd⟩:=Option.isSome_iff_exists.1 hds
    have hap:∀j oj,ops[j]?=some oj→j≠i→listed.getD j true=false→j∉ws→us.contains j=true∧oi.apart ops oj=true:=by
     intro j oj hoj hji hun hjw
     have hlt:j<ops.size:=(Array.getElem?_eq_some_iff.1 hoj).1
     have:=List.all_eq_true.1 hus j (List.mem_range.2 hlt)
     simp only [Bool.or_eq_true,beq_iff_eq,hji,false_or,hun,Bool.false_eq_true,hoj,Bool.and_eq_true] at this
     rcases this with this | ⟨hju,hap⟩
     ·exact absurd (by simpa using this) hjw
     ·exact ⟨hju,hap⟩
    have hwt:∀j∈ws,listed.getD j true=false∧∃oj,ops[j]?=some oj∧∃e∈oj.after,Region.binds .any e=true∧(e.on=i∨e.on∈ws):=by
     intro j hj
     have:=List.all_eq_true.1 hws j hj
     simp only [Bool.and_eq_true,Bool.not_eq_true'] at this
     obtain ⟨w1,w2⟩:=this
     refine ⟨w1,?_⟩
     cases hoj:ops[j]? with
     | none=>rw [hoj] at w2;cases w2
     | some oj=>
      rw [hoj] at w2
      obtain ⟨e,he,hb⟩:=Array.any_eq_true'.1 w2
      simp only [Bool.and_eq_true,Bool.or_eq_true,beq_iff_eq] at hb
      exact ⟨oj,rfl,e,he,hb.1,hb.2.imp id (by simp)⟩
    split at e
    ·rename_i hok
     obtain ⟨st1,e1,e2⟩:=Option.bind_eq_some_iff.1 e
     unfold xU at hok
     rw [hi] at hok
     simp only [Bool.and_eq_true] at hok
     obtain ⟨hfz,hO⟩:=hok
     obtain ⟨v,h1,h2⟩:=Ub hfz hi hk hd e1
     subst h1
     refine Uc (κ':=κ) (fun _ _ _ h=>h) (ws:=ws) (O:=(watch oi.op).flatMap fun x=>(st.get x).iJ) hfz hi hd fuel (fun j oj hoj hji hun hjw=>?_) hwt (by simpa using g1) (fun s q1 q2=>h2 s q1 fun x hx b hb=>q2 b (List.mem_flatMap.2 ⟨x,hx,hb⟩)) ((KT t g3 e2).1 rfl)
     obtain ⟨hju,hap⟩:=hap j oj hoj hji hun hjw
     refine ⟨hap,?_⟩
     rw [Bool.or_eq_true] at hO
     rcases hO with hO | hO
     ·exact .inl (List.isEmpty_iff.1 hO)
     ·have:=List.all_eq_true.1 hO j (by simpa using hju)
      rw [hoj] at this
      simp only [Bool.and_eq_true] at this
      refine .inr (.inl ⟨this.1,fun b hb hdj=>?_⟩)
      have h3:=this.2
      rw [hdj] at h3
      simp only at h3
      have:=List.all_eq_true.1 h3 b hb
      rw [Nat.beq_refl] at this
      cases this
    ·split at e
     ·rename_i hfz
      obtain ⟨st1,e1,e2⟩:=Option.bind_eq_some_iff.1 e
      obtain ⟨v,h1,h2⟩:=Ub hfz hi hk hd e1
      subst h1
      have alm:Me ops i st=(watch oi.op).flatMap fun x=>(st.get x).iJ:=by unfold Me;rw [hi]
      refine Uc (κ':=(us,Me ops i st)::κ) (fun _ _ _ h=>h.2) (ws:=ws) (O:=Me ops i st) hfz hi hd fuel (fun j oj hoj hji hun hjw=>?_) hwt (by simpa using g1) (fun s q1 q2=>h2 s q1 fun x hx b hb=>q2 b (by rw [alm];exact List.mem_flatMap.2 ⟨x,hx,hb⟩)) ((KT t g3 e2).1 rfl)
      obtain ⟨hju,hap⟩:=hap j oj hoj hji hun hjw
      exact ⟨hap,.inr (.inr fun st s h=>TZ (h.1 hju))⟩
     ·cases e
 | .fork i t r,κ,fuel,listed,inF,st,X,hg,e=>by
  cases fuel with
  | zero=>cases hg
  | succ fuel=>
   simp only [Sch.good,Bool.and_eq_true] at hg
   obtain ⟨⟨g1,g2⟩,g3⟩:=hg
   simp only [gp] at e
   obtain ⟨st1,e1,e⟩:=Option.bind_eq_some_iff.1 e
   split at e
   ·rename_i hc
    obtain ⟨hk,hc⟩:=hc
    have one:∃s,oV P cfg aY f nt ops i st=some s∧kOK κ i st s∧Cc P cfg aY f nt ops k κ fuel (listed.setIfInBounds i true) s X:=⟨st1,e1,hk,(KT t g2 e).1 rfl⟩
    have rest:∀j∈r.heads,∃s,oV P cfg aY f nt ops j st=some s∧kOK κ j st s∧Cc P cfg aY f nt ops k κ fuel (listed.setIfInBounds j true) s X:=by
     rcases hc with hc | hc
     ·cases r with
      | stop=>intro j hj;cases hj
      | _=>cases hc
     ·exact (KT r g3 (hc.trans e)).2 fuel rfl
    have all:∀j∈(Sch.fork i t r).heads,∃s,oV P cfg aY f nt ops j st=some s∧kOK κ j st s∧Cc P cfg aY f nt ops k κ fuel (listed.setIfInBounds j true) s X:=by
     intro j hj
     rcases List.mem_cons.1 hj with rfl | hj
     ·exact one
     ·exact rest j hj
    refine ⟨fun hf=>?_,fun n hn'=>?_⟩
    ·subst hf
     simp only [Bool.false_or,beq_iff_eq] at g1
     refine ⟨(fun h0=>by rw [g1] at h0;cases h0),fun j hj=>all j ?_⟩
     rw [g1] at hj
     exact hj
    ·cases hn'
     exact all
   ·cases e
 | .stop,κ,fuel,listed,inF,st,X,hg,e=>by cases e
theorem adF (hop:P8 P cfg aY B) (hn:nt=B.nt) (hs:Region.noSelect ops=true) {k:Option (List Nat×List Nat)} {Q:Exit→Act→World→Prop} (hQp:∀c a w,¬Q (.panic c) a w) (hQ:∀a' w' W',Rel B st' a' w' W'→Q .normal a' w')
 (sch:Sch) {fuel:Nat} {listed:Array Bool} {inF:Bool} {st:St} {a:Act} {w:World} {W:Wit} (hg:sch.good ops fuel listed inF=true) (h:Rel B st a w W) (e:gp P cfg aY f nt ops k [] sch st=some st'):
   (inF=false→wpAny P .any ops Q fuel listed a w)∧True:=
 ⟨fun hf=>Ua hop hn hQ fuel ((KT sch hg e).1 hf) h,trivial⟩
def hasB (m j:Nat):Bool:=Nat.beq (Nat.land (Nat.shiftRight m j) 1) 1
def abS (m j:Nat):Nat:=Nat.lor m (Nat.shiftLeft 1 j)
def GV:List Nat→Nat
 | []=>0
 | j::l=>abS (GV l) j
omit [Lim] in
theorem UY (m j:Nat):hasB m j=m.testBit j:=by
 have h:Nat.land (Nat.shiftRight m j) 1=(m>>>j) % 2:=Nat.and_one_is_mod _
 unfold hasB
 rw [h,Nat.testBit]
 have:(1 &&& (m>>>j))=(m>>>j) % 2:=by rw [Nat.and_comm];exact Nat.and_one_is_mod _
 rw [this]
 have:(m>>>j) % 2=0∨(m>>>j) % 2=1:=by omega
 rcases this with e | e<;>rw [e]<;>rfl
omit [Lim] in
theorem Xf (m i j:Nat):hasB (abS m i) j=(hasB m j||i==j):=by
 have h:abS m i=m ||| 2 ^ i:=by
  show m ||| (1<<<i)=_
  rw [Nat.shiftLeft_eq,Nat.one_mul]
 rw [UY,UY,h,Nat.testBit_or,Nat.testBit_two_pow]
 congr 1
omit [Lim] in
theorem Ud (j:Nat):hasB 0 j=false:=by rw [UY];exact Nat.zero_testBit j
omit [Lim] in
theorem Ue (l:List Nat) (j:Nat):hasB (GV l) j=l.contains j:=by
 induction l with
 | nil=>rw [GV,Ud];rfl
 | cons i l ih=>
  rw [GV,Xf,ih,List.contains_cons,Bool.or_comm]
  congr 1
  exact BEq.comm
omit [Lim] in
theorem aln (a b:Nat):Nat.beq a b=(a==b):=by
 cases h:Nat.beq a b
 ·symm
  rw [beq_eq_false_iff_ne]
  exact Nat.ne_of_beq_eq_false h
 ·symm
  rw [beq_iff_eq]
  exact Nat.eq_of_beq_eq_true h
def Xg (o:Oper) (m:Nat):Bool:=o.after.toList.all fun e=>!Region.binds .any e||hasB m e.on
def Sch.Qb (ops:Array Oper):Sch→Nat→Nat→Bool→Bool
 | .done,_,m,inF=>!inF&&ops.toList.zipIdx.all fun p=>hasB m p.2
 | .first _ _ _ _,0,_,_=>false
 | .first i ws us t,fuel+1,m,inF=>!inF&&
  (match ops[i]? with
  | some oi=>(!hasB m i&&Xg oi m)&&(BZ oi.op&&oi.dst.isSome&&
   (ws.all fun j=>!hasB m j&&match ops[j]? with | some oj=>oj.after.toList.any fun e=>Region.binds .any e&&(Nat.beq e.on i||hasB (GV ws) e.on) | none=>false)&&
   (ops.toList.zipIdx.all fun p=>Nat.beq p.2 i||hasB m p.2||hasB (GV ws) p.2||(hasB (GV us) p.2&&oi.apart ops p.1)))
  | none=>false)&&
  t.Qb ops fuel (abS m i) false
 | .fork i t r,0,_,_=>false
 | .fork i t r,fuel+1,m,inF=>(inF||((ops.toList.zipIdx.filter fun p=>!hasB m p.2&&Xg p.1 m).map (·.2))==i::r.heads)&&(Nat.blt i ops.toList.length&&t.Qb ops fuel (abS m i) false)&&r.Qb ops (fuel+1) m true
 | .stop,_,_,inF=>inF
def GX (ops:Array Oper) (m:Nat) (listed:Array Bool):Prop:=listed.size=ops.size∧∀j,listed.getD j false=hasB m j
omit [Lim] in
theorem GX.getD {ops:Array Oper} {m:Nat} {listed:Array Bool} (h:GX ops m listed) {j:Nat} (hj:j<ops.size) (d:Bool):listed.getD j d=hasB m j:=by
 rw [←h.2 j]
 have:j<listed.size:=by rw [h.1];exact hj
 simp [Array.getD,this]
omit [Lim] in
theorem GX.put {ops:Array Oper} {m:Nat} {listed:Array Bool} (h:GX ops m listed) {i:Nat} (hi:i<ops.size):GX ops (abS m i) (listed.setIfInBounds i true):=by
 refine ⟨by rw [Array.size_setIfInBounds];exact h.1,fun j=>?_⟩
 rw [Xf,←h.2 j]
 have hi':i<listed.size:=by rw [h.1];exact hi
 by_cases e:i=j
 ·subst e
  simp [Array.getD,hi']
 ·simp only [Array.getD_eq_getD_getElem?,Array.getElem?_setIfInBounds,e,if_false,beq_eq_false_iff_ne.2 e,Bool.or_false]
omit [Lim] in
theorem Qc {α:Type} (q:α×Nat→Bool) (p:Nat→Bool):∀(l:List α) (k:Nat),(∀x∈l.zipIdx k,q x=p x.2)→((l.zipIdx k).filter q).map (·.2)=(List.range' k l.length).filter p
 | [],k,_=>rfl
 | a::l,k,h=>by
  have ih:=Qc q p l (k+1) (fun x hx=>h x (by rw [List.zipIdx_cons];exact List.mem_cons_of_mem _ hx))
  have h0:=h (a,k) (by rw [List.zipIdx_cons];exact List.mem_cons_self ..)
  rw [List.zipIdx_cons,List.length_cons,List.range'_succ,List.filter_cons,List.filter_cons,h0]
  simp only
  split
  ·rw [List.map_cons,ih]
  ·exact ih
omit [Lim] in
theorem Xh {ops:Array Oper} {m:Nat} {listed:Array Bool} (h:GX ops m listed) (o:Oper):Xg o m=o.after.all fun e=>!Region.binds .any e||listed.getD e.on false:=by
 unfold Xg
 rw [←Array.all_toList]
 congr 1
 funext e
 rw [h.2]
omit [Lim] in
theorem Uf {ops:Array Oper} {m:Nat} {listed:Array Bool} (h:GX ops m listed):((ops.toList.zipIdx.filter fun p=>!hasB m p.2&&Xg p.1 m).map (·.2))=Region.ready .any ops listed:=by
 unfold Region.ready
 rw [List.range_eq_range',←Array.length_toList]
 refine Qc _ _ ops.toList 0 fun x hx=>?_
 obtain ⟨o,j⟩:=x
 have hx':=List.mk_mem_zipIdx_iff_getElem?.1 hx
 have hj:ops[j]?=some o:=by rw [←Array.getElem?_toList];exact hx'
 have hlt:j<ops.size:=(Array.getElem?_eq_some_iff.1 hj).1
 simp only [h.getD hlt,hj,Option.map_some,Option.getD_some,Xh h]
omit [Lim] in
theorem EN {ops:Array Oper}:∀(t:Sch) {fuel m:Nat} {listed:Array Bool} {inF:Bool},GX ops m listed→t.Qb ops fuel m inF=true→t.good ops fuel listed inF=true
 | .stop,fuel,m,listed,inF,h,g=>by cases fuel<;>exact g
 | .done,fuel,m,listed,inF,h,g=>by
  have g':(!inF&&ops.toList.zipIdx.all fun p=>hasB m p.2)=true:=by cases fuel<;>exact g
  simp only [Bool.and_eq_true] at g'
  have hr:Region.ready .any ops listed=[]:=by
   rw [←Uf h,List.map_eq_nil_iff,List.filter_eq_nil_iff]
   intro x hx
   have:=List.all_eq_true.1 g'.2 x hx
   simp [this]
  have:(!inF&&(Region.ready .any ops listed).isEmpty)=true:=by rw [hr,g'.1];rfl
  cases fuel<;>exact this
 | .first i ws us t,0,m,listed,inF,h,g=>by cases g
 | .first i ws us t,fuel+1,m,listed,inF,h,g=>by
  simp only [Sch.Qb,Bool.and_eq_true] at g
  obtain ⟨⟨g0,g1⟩,g2⟩:=g
  cases hi:ops[i]? with
  | none=>rw [hi] at g1;cases g1
  | some oi=>
   rw [hi] at g1
   simp only [Bool.and_eq_true] at g1
   obtain ⟨⟨g3,g4⟩,⟨⟨⟨g5,g6⟩,g7⟩,g8⟩⟩:=g1
   have hlt:i<ops.size:=(Array.getElem?_eq_some_iff.1 hi).1
   have hr:(Region.ready .any ops listed).contains i=true:=by
    rw [List.contains_iff_mem]
    unfold Region.ready
    rw [List.mem_filter]
    refine ⟨List.mem_range.2 hlt,?_⟩
    simp only [h.getD hlt,hi,Option.map_some,Option.getD_some,←Xh h,g3,g4,Bool.and_self]
   simp only [Sch.good,Bool.and_eq_true]
   refine ⟨⟨⟨g0,hr⟩,?_⟩,EN t (h.put hlt) g2⟩
   rw [hi]
   simp only [Bool.and_eq_true]
   refine ⟨⟨⟨g5,g6⟩,?_⟩,?_⟩
   ·rw [List.all_eq_true] at g7 ⊢
    intro j hj
    have:=g7 j hj
    cases hoj:ops[j]? with
    | none=>rw [hoj] at this;simp at this
    | some oj=>
     rw [hoj] at this
     simp only [Bool.and_eq_true] at this ⊢
     have hjl:j<ops.size:=(Array.getElem?_eq_some_iff.1 hoj).1
     refine ⟨by rw [h.getD hjl];exact this.1,?_⟩
     rw [←Array.any_toList]
     have e:(fun e:Edge=>Region.binds .any e&&(Nat.beq e.on i||hasB (GV ws) e.on))=fun e=>Region.binds .any e&&(e.on==i||ws.contains e.on):=by
      funext e
      rw [Ue,aln]
     rw [←e]
     exact this.2
   ·rw [List.all_eq_true] at g8 ⊢
    intro j hj
    have hjl:=List.mem_range.1 hj
    have hoj:ops[j]?=some ops[j]:=Array.getElem?_eq_getElem hjl
    have:=g8 (ops[j],j) (List.mk_mem_zipIdx_iff_getElem?.2 (by rw [Array.getElem?_toList];exact hoj))
    simp only [Ue,aln] at this
    rw [hoj,h.getD hjl]
    exact this
 | .fork i t r,0,m,listed,inF,h,g=>by cases g
 | .fork i t r,fuel+1,m,listed,inF,h,g=>by
  simp only [Sch.Qb,Bool.and_eq_true] at g
  obtain ⟨⟨g1,g4,g2⟩,g3⟩:=g
  rw [Uf h] at g1
  have hlt:i<ops.size:=by rw [←Array.length_toList];exact Nat.le_of_ble_eq_true g4
  simp only [Sch.good,Bool.and_eq_true]
  exact ⟨⟨g1,EN t (h.put hlt) g2⟩,EN r h g3⟩
omit [Lim] in
theorem GX.zero (ops:Array Oper):GX ops 0 (Array.replicate ops.size false):=by
 refine ⟨Array.size_replicate,fun j=>?_⟩
 rw [Ud,Array.getD_eq_getD_getElem?]
 rw [Array.getElem?_replicate]
 split<;>rfl
def o7 (fc:bC):Code→Bool
 | .region id ops true=>Region.noSelect ops&&(look .stop fc.sch id).Qb ops ops.size 0 false
 | .seq x y=>o7 fc x&&o7 fc y
 | .cond _ x y=>o7 fc x&&o7 fc y
 | .block _ c=>o7 fc c
 | .loop c=>o7 fc c
 | _=>true
def Ends (B:Base) (ex:Ex) (st:St):Exit→Act→World→Prop
 | .normal,a,w=>ex= .normal∧∃W,Rel B st a w W
 | .exit id,a,w=>ex= .exit id∧∃W,Rel B st a w W
 | .ret,a,w=>ex= .ret∧∃W,Rel B st a w W
 | _,_,_=>False
theorem Ends.Xi {ex:Ex} {st:St} {a:Act} {w:World} {x:Exit} {st':St} {ex':Ex} {next:Act→World→Prop} (h:Ends B ex st x a w) (hn:ex= .normal→∀W,Rel B st a w W→next a w) (hx:ex≠ .normal→ex=ex'∧st=st'):
 Exit.then next (Ends B ex' st') x a w:=by
 cases x with
 | normal=>obtain ⟨h1,W,h2⟩:=h;exact hn h1 W h2
 | exit id=>obtain ⟨h1,h2⟩:=h;subst h1;obtain ⟨q1,q2⟩:=hx (by intro e;cases e);subst q1 q2;exact ⟨rfl,h2⟩
 | ret=>obtain ⟨h1,h2⟩:=h;subst h1;obtain ⟨q1,q2⟩:=hx (by intro e;cases e);subst q1 q2;exact ⟨rfl,h2⟩
 | _=>exact h.elim
omit [Lim] in
theorem least (p:Nat→Prop) (h:∃n,p n):∃n,p n∧∀m,p m→n≤m:=by
 obtain ⟨n,hn⟩:=h
 induction n using Nat.strongRecOn with
 | _ n ih=>
  by_cases hx:∃m,m<n∧p m
  ·obtain ⟨m,h1,h2⟩:=hx
   exact ih m h1 h2
  ·refine ⟨n,hn,fun m hm=>?_⟩
   rcases Nat.lt_or_ge m n with h' | h'
   ·exact absurd ⟨m,h',hm⟩ hx
   ·exact h'
theorem zq (Qd:P.follows .mixedOrders=true) (hop:P8 P cfg aY B) (hn:nt=B.nt) {n:Nat}:∀(c:Code) {st:St} {ex:Ex} {st':St} {a:Act} {w:World} {W:Wit},o7 (cfg.fc f) c=true→Rel B st a w W→
 dL P cfg aY f nt n c st=some (ex,st')→c.wp P (Ends B ex st') a w
 | .skip,st,ex,st',a,w,W,hg,h,e=>by
  simp only [dL,Option.some.injEq,Prod.mk.injEq] at e
  obtain ⟨rfl,rfl⟩:=e
  exact wp_skip ⟨rfl,W,h⟩
 | .exit id,st,ex,st',a,w,W,hg,h,e=>by
  simp only [dL,Option.some.injEq,Prod.mk.injEq] at e
  obtain ⟨rfl,rfl⟩:=e
  exact wp_exit ⟨rfl,W,h⟩
 | .ret,st,ex,st',a,w,W,hg,h,e=>by
  simp only [dL,Option.some.injEq,Prod.mk.injEq] at e
  obtain ⟨rfl,rfl⟩:=e
  exact wp_ret ⟨rfl,W,h⟩
 | .region id ops false,st,ex,st',a,w,W,hg,h,e=>by
  simp only [dL] at e
  obtain ⟨st1,e1,e2⟩:=Option.map_eq_some_iff.1 e
  cases e2
  obtain ⟨W0,h⟩:=ZL h ((cfg.fc f).shut.any (·.beq id))
  exact wp_region (Xe hop hn _ _ (GR h _) e1 fun a' w' W' hr=>⟨rfl,W',GR hr _⟩)
 | .region id ops true,st,ex,st',a,w,W,hg,h,e=>by
  simp only [dL] at e
  obtain ⟨st1,e1,e2⟩:=Option.map_eq_some_iff.1 e
  cases e2
  simp only [o7,Bool.and_eq_true] at hg
  obtain ⟨W0,h⟩:=ZL h ((cfg.fc f).shut.any (·.beq id))
  exact wp_region_any Qd ((adF hop hn hg.1 (fun _ _ _ hq=>hq) (fun a' w' W' hr=>⟨rfl,W',hr⟩) _ (EN _ (GX.zero ops) hg.2) ((GR h _).drawn _) e1).1 rfl)
 | .seq x y,st,ex,st',a,w,W,hg,h,e=>by
  simp only [o7,Bool.and_eq_true] at hg
  simp only [dL] at e
  obtain ⟨⟨e0,st1⟩,e1,e2⟩:=Option.bind_eq_some_iff.1 e
  have h1:=zq Qd hop hn x hg.1 h e1
  refine wp_seq (wp_mono h1 fun x a' w' hx=>?_)
  refine hx.Xi (fun hn' W' hr=>?_) fun hne=>?_
  ·subst hn'
   exact zq Qd hop hn y hg.2 hr e2
  ·cases e0 with
   | normal=>exact absurd rfl hne
   | _=>cases e2;exact ⟨rfl,rfl⟩
 | .cond c x y,st,ex,st',a,w,W,hg,h,e=>by
  simp only [o7,Bool.and_eq_true] at hg
  simp only [dL] at e
  obtain ⟨t,ht,e⟩:=Option.bind_eq_some_iff.1 e
  have hv:=PS ht (h.get c)
  refine wp_cond hv ?_
  cases t with
  | true=>exact zq Qd hop hn x hg.1 h e
  | false=>exact zq Qd hop hn y hg.2 h e
 | .block id c,st,ex,st',a,w,W,hg,h,e=>by
  simp only [dL] at e
  obtain ⟨⟨e0,st1⟩,e1,e2⟩:=Option.map_eq_some_iff.1 e
  cases e2
  refine wp_block (wp_mono (zq Qd hop hn c hg h e1) fun x a' w' hx=>?_)
  cases x with
  | normal=>obtain ⟨p1,p2⟩:=hx;subst p1;exact ⟨rfl,p2⟩
  | ret=>obtain ⟨p1,p2⟩:=hx;subst p1;exact ⟨rfl,p2⟩
  | exit i=>
   obtain ⟨p1,p2⟩:=hx
   subst p1
   simp only [Exit.inBlock]
   split
   ·rename_i hi;subst hi;exact ⟨by simp,p2⟩
   ·rename_i hi;exact ⟨by simp [MF hi],p2⟩
  | _=>exact hx.elim
 | .loop c,st,ex,st',a,w,W,hg,h,e=>by
  simp only [dL] at e
  generalize look ([],[]) (cfg.fc f).aO (tV c)=k at e
  let G:Nat→Act→World→Prop:=fun m a w=>∃st W,Rel B st a w W∧Bi (dL P cfg aY f nt n c) k m st=some (ex,st')
  let I:Act→World→Prop:=fun a w=>∃m,G m a w
  let μ:Act→World→Nat:=fun a w=>if hx:I a w then Classical.choose (least (fun m=>G m a w) hx) else 0
  have hμ:∀a w,I a w→G (μ a w) a w∧∀m,G m a w→μ a w≤m:=by
   intro a w hx
   have:=Classical.choose_spec (least (fun m=>G m a w) hx)
   simp only [μ,dif_pos hx]
   exact this
  refine wp_loop I μ ⟨n,st,W,h,e⟩ fun a w hI=>?_
  obtain ⟨⟨st,W,h,e⟩,anU⟩:=hμ a w hI
  cases hm:μ a w with
  | zero=>rw [hm] at e;cases e
  | succ m=>
   rw [hm] at e
   simp only [Bi] at e
   obtain ⟨⟨e0,st1⟩,e1,e2⟩:=Option.bind_eq_some_iff.1 e
   refine wp_mono (zq Qd hop hn c hg (ZQ h k) e1) fun x a' w' hx=>?_
   refine hx.Xi (fun hn' W' hr=>?_) fun hne=>?_
   ·subst hn'
    have hG:G m a' w':=⟨st1,W',hr,e2⟩
    exact ⟨⟨m,hG⟩,Nat.lt_succ_of_le ((hμ a' w' ⟨m,hG⟩).2 m hG)⟩
   ·cases e0 with
    | normal=>exact absurd rfl hne
    | _=>cases e2;exact ⟨rfl,rfl⟩
 | .label _,st,ex,st',a,w,W,hg,h,e=>by simp [dL] at e
 | .goto _,st,ex,st',a,w,W,hg,h,e=>by simp [dL] at e
 | .scope _,st,ex,st',a,w,W,hg,h,e=>by simp [dL] at e
end
end
end Go.Sim
