/- Parts of values, slices of slices, values that are put together. Conditions: none. -/
import Derived.Test.YtngbehdgjocndaaGreatSimL
import Derived.Laws.Tables
namespace Go.Sim
variable [Lim]
open Classical
set_option linter.unusedSimpArgs false
set_option linter.unusedVariables false
noncomputable section
section
variable {P:Program} {cfg:Cfg} {aY:FuncId→List Arg→Option (Res×List Out)} {B:Base} {st st':St} {a:Act} {w:World} {W:Wit} {o:Oper} {nt:Nat}
omit [Lim] in
theorem WU {t:TypeId} (h:fJ P t=true):∃d,P.underlying t=some d:=by
 unfold fJ at h
 cases hu:P.underlying t with
 | none=>rw [hu] at h;cases h
 | some d=>exact ⟨d,rfl⟩
theorem adp (h:Rel B st a w W) (hn:nt=B.nt) {t:TypeId} {x:Operand} {f:Nat} (ho:o.op= .field t x f) (e:aH P cfg aY nt o st=some st'):Good P B o st' a w:=by
 simp only [aH,ho] at e
 split at e
 ·rename_i fs cs hu hv
  have hx:=h.get x
  rw [hv] at hx
  obtain ⟨vs,hrs,_,hag,_⟩:=KO hx
  have hxv:=hag rfl
  obtain ⟨fd,hfd,e⟩:=Option.bind_eq_some_iff.1 e
  obtain ⟨dsc,aja,e⟩:=Option.bind_eq_some_iff.1 e
  obtain ⟨sv,hsv,e⟩:=Option.bind_eq_some_iff.1 e
  have hpart:=(hrs.drop fd.offset).take (P.cellsOf fd.type)
  have hs:=zk hsv hpart
  refine gQ h hn (u:=valOf (fJ P fd.type) ((vs.drop fd.offset).take (P.cellsOf fd.type))) ?_ hs e
  cases agj:fJ P fd.type with
  | true=>
   obtain ⟨d,hd⟩:=WU agj
   obtain ⟨i,hi⟩:=JB hd
   have hex:(vs.toArray.extract fd.offset (fd.offset+i.size))=((vs.drop fd.offset).take i.size).toArray:=by
    apply Array.ext'
    simp
   simp [execOp,ho,Instr.field,cO hu,hfd,hxv,asAgg,part,IK hd,agj,nH hi,valOf,BC hi,hex]
  | false=>
   have hl:=hpart.length
   rw [agj] at hsv
   have hone:∃r,(cs.drop fd.offset).take (P.cellsOf fd.type)=[r]:=by
    unfold SV.jO at hsv
    simp only [Bool.false_eq_true,if_false] at hsv
    split at hsv
    ·rename_i r hr;exact ⟨r,hr⟩
    ·cases hsv
   obtain ⟨r,hr⟩:=hone
   rw [hr] at hl
   obtain ⟨u,hu1⟩:∃u,(vs.drop fd.offset).take (P.cellsOf fd.type)=[u]:=List.length_eq_one_iff.1 hl.symm
   have hu2:vs[fd.offset]?=some u:=by
    have h0:((vs.drop fd.offset).take (P.cellsOf fd.type))[0]?=some u:=by rw [hu1];rfl
    rw [List.getElem?_take] at h0
    split at h0
    ·rw [List.getElem?_drop] at h0;simpa using h0
    ·cases h0
   have hagg:(isAgg fd.type).run P w= .ok false w:=by rw [IK aja,agj]
   simp [execOp,ho,Instr.field,cO hu,hfd,hxv,asAgg,part,hagg,valOf,hu1,hu2]
 ·cases e
omit [Lim] in
theorem anN {a b:Nat} (h:(a.beq 0||b.beq 0)=true):a=0∨b=0:=by
 rcases Bool.or_eq_true _ _ ▸ h with h | h
 ·exact .inl (beq_eq h)
 ·exact .inr (beq_eq h)
theorem Yt (h:Rel B st a w W) {sz:Nat} {r r':RV} {v:Value} {lo hi:Option Int} (e:st.reslice sz r lo hi=some r') (hr:RR w W st.L r v):
 ∃a0 n cap l m,v= .slice a0 n cap∧l≤m∧m≤n∧n≤cap∧(lo=none→l=0)∧(∀i,lo=some i→0≤i∧i.toNat=l)∧(hi=none→m=n)∧(∀i,hi=some i→0≤i∧i.toNat=m)∧
  RR w W st.L r' (.slice (if cap=l then a0 else a0.map (·.add (l*sz))) (m - l) (cap - l)):=by
 unfold St.reslice at e
 obtain ⟨n,hn,e⟩:=Option.bind_eq_some_iff.1 e
 obtain ⟨l,hl,e⟩:=Option.bind_eq_some_iff.1 e
 obtain ⟨m,hm,e⟩:=Option.bind_eq_some_iff.1 e
 obtain ⟨a0,cap,hv,hnone,hspot,hcap⟩:=MI h hn hr
 split at e
 ·rename_i hcond
  simp only [Bool.and_eq_true] at hcond
  have hlm:=qH hcond.1
  have hmn:=qH hcond.2
  refine ⟨a0,n,cap,l,m,hv,hlm,hmn,hcap,?_,?_,?_,?_,?_⟩
  ·intro e;subst e;simp at hl;exact hl.symm
  ·intro i e;subst e;exact xm hl
  ·intro e;subst e;simp at hm;exact hm.symm
  ·intro i e;subst e;exact xm hm
  have PW:(cap=0∧l=0∧m=0∧n=0)∨∃b off,a0=some ⟨b,off,none⟩:=by
   cases a0 with
   | none=>have:=hnone rfl;exact .inl ⟨this.2,by omega,by omega,this.1⟩
   | some x=>
    obtain ⟨b,off,sp⟩:=x
    rcases hspot _ rfl with this | this
    ·simp only at this;subst this
     exact .inr ⟨b,off,rfl⟩
    ·exact .inl ⟨this,by omega,by omega,by omega⟩
  cases r with
  | im t y=>
   cases y with
   | row z es=>
    simp only at e
    split at e
    ·rename_i hz
     have hz:=beq_eq hz
     cases e
     subst hz
     simp only [St.len,Option.some.injEq] at hn
     subst hn
     rw [hv] at hr
     show CRi w (W.F (tg (dm t (.row z ((es.take m).drop l))))) _ _
     refine CRi.part (lo:=l) (hi:=m) hr hlm hmn ?_
     rcases PW with ⟨rfl,rfl,rfl,_⟩ | ⟨b,off,rfl⟩
     ·exact .inl ⟨rfl,by simp⟩
     ·refine .inr ⟨b,off,rfl,by omega,?_⟩
      split<;>simp [kK]
    ·cases e
   | _=>simp at e
  | nil=>
   cases e
   simp only [St.len,Option.some.injEq] at hn
   subst hn
   have hr:v= .slice none 0 0:=hr
   rw [hr] at hv
   injection hv with h1 h2 h3
   subst h1 h3
   have:l=0:=by omega
   have:m=0:=by omega
   subst_vars
   show _=_
   simp
  | own o s c=>
   simp only at e
   have sub:∀{e':Option RV},e'=some r'→e'=((st.cell o s c).bind fun x=>match x.2.a with | .row z _=>if z.beq sz then some (.sub o s c l m) else none | _=>none)→
    RR w W st.L r' (.slice (if cap=l then a0 else a0.map (·.add (l*sz))) (m - l) (cap - l)):=by
    intro e' e h'
    rw [h'] at e
    obtain ⟨⟨ob,mo,s',t',z⟩,hc,e⟩:=Option.bind_eq_some_iff.1 e
    cases z with
    | row z es=>
     simp only at e
     split at e
     ·rename_i hz
      have hz:=beq_eq hz
      cases e
      subst hz
      obtain ⟨hL,hx,hs⟩:=eF hc
      simp only at hL hx hs;subst hs
      obtain ⟨ob2,hL2,hst,hval⟩:=hr
      rw [hL] at hL2;cases hL2
      have hvv:=hval _ hx rfl
      simp only [St.len,hc,Option.bind_some] at hn
      have hn':es.length=n:=by
       cases mo<;>first | (simp at hn;exact hn) | (simp at hn)
      refine ⟨ob,hL,hst,fun x hx' hs' hm' sz2 es2 he2=>?_⟩
      rw [hx] at hx';cases hx'
      simp only at he2
      injection he2 with e1 e2
      subst e1 e2
      refine ⟨hlm,by omega,a0,cap,by rw [hvv,hv,hn'],?_⟩
      rcases PW with ⟨rfl,rfl,rfl,_⟩ | ⟨b,off,rfl⟩
      ·exact .inl ⟨rfl,by simp⟩
      ·refine .inr ⟨b,off,rfl,by omega,?_⟩
       split<;>simp [kK]
     ·cases e
    | _=>simp at e
   cases lo with
   | some i=>exact sub e rfl
   | none=>
    cases hi with
    | some i=>exact sub e rfl
    | none=>
     cases e
     simp only [Option.some.injEq] at hl hm
     subst hl hm
     have:(if cap=0 then a0 else a0.map (·.add (0*sz)))=a0:=by
      split
      ·rfl
      ·rcases PW with ⟨rfl,_⟩ | ⟨b,off,rfl⟩
       ·rename_i h0;exact absurd rfl h0
       ·simp [kK]
     rw [this,Nat.sub_zero,Nat.sub_zero,←hv]
     exact hr
  | sub o s c l' h'=>
   simp only at e
   obtain ⟨⟨ob,mo,s',t',z⟩,hc,e⟩:=Option.bind_eq_some_iff.1 e
   cases z with
   | row z es=>
    simp only at e
    split at e
    ·rename_i hz
     simp only [Bool.and_eq_true] at hz
     obtain ⟨hz,hzero⟩:=hz
     have hz:=beq_eq hz
     cases e
     subst hz
     obtain ⟨hL,hx,hs⟩:=eF hc
     simp only at hL hx hs;subst hs
     obtain ⟨ob2,hL2,hst,hval⟩:=hr
     rw [hL] at hL2;cases hL2
     simp only [St.len,hc,Option.bind_some] at hn
     have hmo:mo≠ .gone∧h' - l'=n:=by
      cases mo<;>first | (simp at hn;exact ⟨(fun e=>by cases e),hn⟩) | (simp at hn)
     obtain ⟨p1,p2,a1,cap1,p3,p4⟩:=hval _ hx rfl hmo.1 _ _ rfl
     refine ⟨ob,hL,hst,fun x hx' hs' hm' sz2 es2 he2=>?_⟩
     rw [hx] at hx';cases hx'
     simp only at he2
     injection he2 with e1 e2
     subst e1 e2
     refine ⟨by omega,by omega,a1,cap1,p3,?_⟩
     rcases p4 with ⟨rfl,p5⟩ | ⟨b,off,rfl,hc1,p5⟩
     ·rw [p5] at hv
      injection hv with q1 q2 q3
      subst q1 q3
      have:l=0:=by omega
      have:m=0:=by omega
      subst_vars
      exact .inl ⟨rfl,by simp⟩
     ·rw [p5] at hv
      injection hv with q1 q2 q3
      subst q1 q3
      refine .inr ⟨b,off,rfl,by omega,?_⟩
      have hz0:l'=0∨l=0:=anN hzero
      rcases hz0 with rfl | rfl
      ·simp only [Nat.zero_add,Nat.sub_zero,Nat.zero_mul,Nat.add_zero,ite_self]
       split<;>simp [kK]
      ·simp only [Nat.sub_zero,Nat.zero_mul,Nat.add_zero,Nat.add_sub_cancel_left]
       congr 1
       split<;>simp [kK]
    ·cases e
   | _=>simp at e
  | _=>cases e
 ·cases e
omit [Lim] in
theorem PX {isS:Bool} {n cap l m:Nat} {lo hi:Option Value} (hlo:(lo=none∧l=0)∨∃k i,lo=some (.int k i)∧0≤i∧i.toNat=l) (hhi:(hi=none∧m=n)∨∃k i,hi=some (.int k i)∧0≤i∧i.toNat=m)
 (hlm:l≤m) (hmc:m≤cap):(Instr.sliceBounds isS n cap lo hi none).run P w= .ok (l,m,cap) w:=by
 have hb:∀(k:IntKind) (i:Int) (y:Nat) (c:BoundsCode),0≤i→i.toNat≤y→(Instr.sliceBound (.int k i) y c).run P w= .ok i.toNat w:=by
  intro k i y c h0 h1
  have hc:0≤i∧i≤(y:Int):=⟨h0,by omega⟩
  simp [Instr.sliceBound,asIntOf,hc.1,hc.2]
 unfold Instr.sliceBounds
 rcases hhi with ⟨rfl,rfl⟩ | ⟨k2,i2,rfl,h3,rfl⟩
 ·rcases hlo with ⟨rfl,rfl⟩ | ⟨k1,i1,rfl,h1,rfl⟩
  ·simp
  ·simp [hb k1 i1 _ _ h1 hlm]
 ·rcases hlo with ⟨rfl,rfl⟩ | ⟨k1,i1,rfl,h1,rfl⟩
  ·simp [hb k2 i2 _ _ h3 hmc]
  ·simp [hb k2 i2 _ _ h3 hmc,hb k1 i1 _ _ h1 hlm]
theorem ok_slice (h:Rel B st a w W) (hn:nt=B.nt) {t:TypeId} {x:Operand} {lo hi:Option Operand} (ho:o.op= .slice t x lo hi none) (e:aH P cfg aY nt o st=some st'):Good P B o st' a w:=by
 simp only [aH,ho] at e
 obtain ⟨lo',hlo,e⟩:=Option.bind_eq_some_iff.1 e
 obtain ⟨hi',hhi,e⟩:=Option.bind_eq_some_iff.1 e
 have bnd:∀{y:Option Operand} {y':Option Int},(match y with | none=>some none | some y=>(st.get y).int?.map fun p=>some p.2)=some y'→
  (y=none∧y'=none)∨∃q k i,y=some q∧y'=some i∧a.eval q= .int k i:=by
  intro y y' hy
  cases y with
  | none=>cases hy;exact .inl ⟨rfl,rfl⟩
  | some q=>
   obtain ⟨⟨k,i⟩,h1,h2⟩:=Option.map_eq_some_iff.1 hy
   cases h2
   exact .inr ⟨q,k,i,rfl,rfl,KL h1 (h.get q)⟩
 have lo1:=bnd hlo
 have hi1:=bnd hhi
 split at e
 ·rename_i t0 s hu hs
  have hx:=h.get x
  rw [hs] at hx
  have hxv:=(qI (eX hx)).1
  obtain ⟨l,hl,e⟩:=Option.bind_eq_some_iff.1 e
  obtain ⟨m,hm,e⟩:=Option.bind_eq_some_iff.1 e
  split at e
  ·rename_i hc
   simp only [Bool.and_eq_true] at hc
   refine gQ h hn (u:= .string (s.extract l m)) ?_ (Jr rfl) e
   have hb:=PX (P:=P) (w:=w) (isS:=false) (n:=s.size) (cap:=s.size) (l:=l) (m:=m) (lo:=lo.map a.eval) (hi:=hi.map a.eval) ?_ ?_ (qH hc.1) (qH hc.2)
   ·simp [execOp,ho,Instr.sliceAt,cO hu,hxv,Instr.slice,hb]
   ·rcases lo1 with ⟨rfl,rfl⟩ | ⟨q,k,i,rfl,rfl,hq⟩
    ·simp at hl;exact .inl ⟨rfl,hl.symm⟩
    ·exact .inr ⟨k,i,by simp [hq],xm hl⟩
   ·rcases hi1 with ⟨rfl,rfl⟩ | ⟨q,k,i,rfl,rfl,hq⟩
    ·simp at hm;exact .inl ⟨rfl,hm.symm⟩
    ·exact .inr ⟨k,i,by simp [hq],xm hm⟩
  ·cases e
 ·rename_i el r hu hs
  have hx:=h.get x
  rw [hs] at hx
  obtain ⟨inf,hi0,e⟩:=Option.bind_eq_some_iff.1 e
  obtain ⟨r',hr',e⟩:=Option.bind_eq_some_iff.1 e
  obtain ⟨a0,n,cap,l,m,hv,hlm,hmn,hnc,k1,k2,k3,k4,hrr⟩:=Yt h hr' (eX hx)
  refine gQ h hn (u:= .slice (if cap=l then a0 else a0.map (·.add (l*inf.size))) (m - l) (cap - l)) ?_ (Cb hrr) e
  have hb:=PX (P:=P) (w:=w) (isS:=true) (n:=n) (cap:=cap) (l:=l) (m:=m) (lo:=lo.map a.eval) (hi:=hi.map a.eval) ?_ ?_ hlm (by omega)
  ·simp [execOp,ho,Instr.sliceAt,cO hu,hv,Instr.slice,hb,nH hi0]
  ·rcases lo1 with ⟨rfl,rfl⟩ | ⟨q,k,i,rfl,rfl,hq⟩
   ·exact .inl ⟨rfl,k1 rfl⟩
   ·exact .inr ⟨k,i,by simp [hq],k2 i rfl⟩
  ·rcases hi1 with ⟨rfl,rfl⟩ | ⟨q,k,i,rfl,rfl,hq⟩
   ·exact .inl ⟨rfl,k3 rfl⟩
   ·exact .inr ⟨k,i,by simp [hq],k4 i rfl⟩
 ·cases e
theorem abJ (h:Rel B st a w W) {r:RV} {v:Value} (e:st.alive r=true) (hr:RR w W st.L r v):v.oneCell'=true:=by
 have ZO:∀{n},st.len r=some n→v.oneCell'=true:=by
  intro n hn
  obtain ⟨a0,cap,rfl,_⟩:=MI h hn hr
  rfl
 have alh:∀{b},st.vW r=some b→v.oneCell'=true:=by
  intro b hb
  obtain ⟨p,rfl,_⟩:=Po h hb hr
  rfl
 have two:((st.vW r).isSome||(st.len r).isSome)=true→v.oneCell'=true:=by
  intro e
  cases hp:st.vW r with
  | some b=>exact alh hp
  | none=>
   cases hl:st.len r with
   | some n=>exact ZO hl
   | none=>rw [hp,hl] at e;cases e
 cases r with
 | im t y=>exact CRi.one hr
 | nil=>have hr:v=_:=hr;subst hr;rfl
 | qC=>cases e
 | fr a=>cases e
 | ws a=>cases e
 | own o s c=>
  simp only [St.alive] at e
  cases hc:st.cell o s c with
  | none=>rw [hc] at e;cases e
  | some p=>
   obtain ⟨ob,m,s',t',z⟩:=p
   rw [hc] at e
   obtain ⟨hL,hx,hs⟩:=eF hc
   simp only at hL hx hs;subst hs
   obtain ⟨u,hu,hok,_⟩:=h.cellAt hc
   obtain ⟨ob2,hL2,_,hval⟩:=hr
   rw [hL] at hL2;cases hL2
   have:=hval _ hx rfl
   rw [hu] at this;cases this
   cases m with
   | gone=>cases e
   | imm=>exact CRi.one hok
   | sh=>
    cases z with
    | row z es=>exact ZO (n:=es.length) (by simp [St.len,hc])
    | _=>exact hok.elim
   | dp n=>
    cases z with
    | row z es=>exact ZO (n:=es.length) (by simp [St.len,hc])
    | _=>exact hok.elim
   | dd n i j=>
    cases z with
    | row z es=>exact ZO (n:=es.length) (by simp [St.len,hc])
    | _=>exact hok.elim
   | ws=>exact CRs.one hok
   | fr=>exact CRi.one hok
 | sub o s c lo hi=>exact two e
 | mp o s off=>exact two e
 | mpe o s c i off=>exact two e
 | inr o s c i j n=>exact two e
theorem UT (h:Rel B st a w W) {places:List (Nat×Nat)} {f:Nat→Option (Nat×Nat)} (hf:∀(i:Nat) p,places[i]?=some p→f i=some p):∀(ps:List (Nat×SV)) (vs:List (Nat×Value)) (cs cs':List RV) (us:Array Value),
 RRs w W st.L cs us.toList→qE st places cs ps=some cs'→ps.map (·.1)=vs.map (·.1)→(∀(i:Nat) p u,ps[i]?=some p→vs[i]?=some u→SR w W st.L p.2 u.2)→
 ∃us',Instr.fill f us vs=some us'∧RRs w W st.L cs' us'.toList
 | [],vs,cs,cs',us,hr,e,hl,_=>by
  cases vs with
  | nil=>cases e;exact ⟨us,rfl,hr⟩
  | cons _ _=>cases hl
 | (i,sv)::ps,vs,cs,cs',us,hr,e,hl,hs=>by
  cases vs with
  | nil=>cases hl
  | cons u vs=>
   obtain ⟨i',v⟩:=u
   simp only [List.map_cons,List.cons.injEq] at hl
   obtain ⟨rfl,hl⟩:=hl
   cases sv with
   | v ag xs=>
    simp only [qE] at e
    obtain ⟨⟨off,sz⟩,hp,e⟩:=Option.bind_eq_some_iff.1 e
    split at e
    ·rename_i hc
     simp only [Bool.and_eq_true] at hc
     obtain ⟨⟨h1,h2⟩,h3⟩:=hc
     have h1:=beq_eq h1
     have h2:=qH h2
     have hv:=hs 0 (i,.v ag xs) (i,v) rfl rfl
     obtain ⟨ws,hrs,hcells,_⟩:=KO hv
     have hone:∀u∈ws,u.oneCell'=true:=by
      have:∀(xs:List RV) (ws:List Value),RRs w W st.L xs ws→xs.all st.alive=true→∀u∈ws,u.oneCell'=true:=by
       intro xs ws hr
       induction hr with
       | nil=>intro _ u hu;cases hu
       | cons k1 _ ih=>
        intro hal u hu
        simp only [List.all_cons,Bool.and_eq_true] at hal
        rcases List.mem_cons.1 hu with rfl | hu
        ·exact abJ h hal.1 k1
        ·exact ih hal.2 u hu
      exact this xs ws hrs h3
     have hc:=hcells hone
     have hsz:v.cells.size=sz:=by rw [←Array.length_toList,hc,←hrs.length,←h1]
     have hus:off+sz≤us.size:=by
      have:=hr.length
      simp at this;omega
     have hfold:∀(cl:List Value) (k:Nat) (us:Array Value),off+(k+cl.length)≤us.size→((cl.zipIdx k).foldl (fun (cs:Array Value) (x:Value×Nat)=>cs.setIfInBounds (off+x.2) x.1) us).toList=splice us.toList (off+k) cl:=by
      intro cl
      induction cl with
      | nil=>intro k us _;simp [PN]
      | cons c cl ih=>
       intro k us hlen
       simp only [List.length_cons] at hlen
       simp only [List.zipIdx_cons,List.foldl_cons]
       rw [ih (k+1) _ (by simp;omega)]
       apply List.ext_getElem?
       intro j
       rw [mD (by simp;omega),mD (by simp;omega)]
       by_cases j1:j<off+k
       ·rw [if_pos (by omega),if_pos j1]
        rw [Array.toList_setIfInBounds,List.getElem?_set_ne (by omega)]
       ·by_cases j2:j=off+k
        ·subst j2
         rw [if_pos (by omega),if_neg (by omega),if_pos (by simp)]
         have:off+k<us.size:=by omega
         simp [this]
        ·by_cases j3:j<off+(k+1)+cl.length
         ·rw [if_neg (by omega),if_pos j3,if_neg j1,if_pos (by simp;omega)]
          have:j - (off+k)=(j - (off+(k+1)))+1:=by omega
          rw [this,List.getElem?_cons_succ]
         ·rw [if_neg (by omega),if_neg j3,if_neg j1,if_neg (by simp;omega)]
          rw [Array.toList_setIfInBounds,List.getElem?_set_ne (by omega)]
     obtain ⟨us',k1,k2⟩:=UT h hf ps vs (splice cs off xs) cs' ((v.cells.toList.zipIdx 0).foldl (fun (cs:Array Value) (x:Value×Nat)=>cs.setIfInBounds (off+x.2) x.1) us) (by
      rw [hfold _ 0 us (by rw [Array.length_toList,hsz];omega),hc]
      exact hr.splice hrs off) e hl (fun i p u hp hu=>hs (i+1) p u (by simpa using hp) (by simpa using hu))
     refine ⟨us',?_,k2⟩
     unfold Instr.fill
     rw [hf i _ hp]
     simp only [hsz]
     rw [if_neg (by simp;omega),←k1]
     congr 1
     rw [←Array.foldl_toList,Array.toList_zipIdx]
    ·cases e
   | _=>cases e
theorem TT (h:Rel B st a w W) (ps:Array (Nat×Operand)):(ps.toList.map fun p=>(p.1,st.get p.2)).map (·.1)=(ps.toList.map fun p=>(p.1,a.eval p.2)).map (·.1)∧
 ∀(i:Nat) p u,(ps.toList.map fun p=>(p.1,st.get p.2))[i]?=some p→(ps.toList.map fun p=>(p.1,a.eval p.2))[i]?=some u→SR w W st.L p.2 u.2:=by
 refine ⟨by simp,fun i p u hp hu=>?_⟩
 rw [List.getElem?_map] at hp hu
 obtain ⟨q,h1,h2⟩:=Option.map_eq_some_iff.1 hp
 obtain ⟨q',h3,h4⟩:=Option.map_eq_some_iff.1 hu
 rw [h1] at h3;cases h3
 subst h2 h4
 exact h.get _
theorem adq (h:Rel B st a w W) (hn:nt=B.nt) {t:TypeId} {ps:Array (Nat×Operand)} (ho:o.op= .build t ps) (e:aH P cfg aY nt o st=some st'):Good P B o st' a w:=by
 simp only [aH,ho] at e
 obtain ⟨zs,hz,e⟩:=Option.bind_eq_some_iff.1 e
 obtain ⟨inf,z,hi,hz1,hzr⟩:=IL (w:=w) (W:=W) (st:=st) hz
 have hg:=TT h ps
 split at e
 ·rename_i fs hu
  obtain ⟨places,hpl,e⟩:=Option.bind_eq_some_iff.1 e
  obtain ⟨cs,hcs,e⟩:=Option.bind_eq_some_iff.1 e
  obtain ⟨us',k1,k2⟩:=UT h (places:=places) (f:=fun i=>places[i]?) (fun i p hp=>hp) _ _ zs cs z.cells hzr hcs hg.1 hg.2
  refine gQ h hn (u:= .agg us') ?_ (show SR w W st.L (.v true cs) _ from .inl ⟨rfl,us',rfl,k2⟩) e
  simp [execOp,ho,Instr.build,zeroValue,Eg hi,hz1,cO hu,Array.mapM_eq_mapM_toList,run_places w _ _ hpl,k1]
 ·rename_i n el hu
  obtain ⟨agk,hi2,e⟩:=Option.bind_eq_some_iff.1 e
  obtain ⟨cs,hcs,e⟩:=Option.bind_eq_some_iff.1 e
  obtain ⟨us',k1,k2⟩:=UT h (places:=(List.range n).map fun i=>(i*agk.size,agk.size)) (f:=fun i=>some (i*agk.size,agk.size)) (fun i p hp=>by
   rw [List.getElem?_map] at hp
   obtain ⟨q,h1,h2⟩:=Option.map_eq_some_iff.1 hp
   rw [List.getElem?_range] at h1
   ·cases h1;rw [←h2]
   ·rcases Nat.lt_or_ge i n with h' | h'
    ·exact h'
    ·rw [List.getElem?_eq_none (by simpa using h')] at h1;cases h1) _ _ zs cs z.cells hzr hcs hg.1 hg.2
  refine gQ h hn (u:= .agg us') ?_ (show SR w W st.L (.v true cs) _ from .inl ⟨rfl,us',rfl,k2⟩) e
  simp [execOp,ho,Instr.build,zeroValue,Eg hi,hz1,cO hu,nH hi2,k1]
 ·cases e
end
end
end Go.Sim
