/- Freezing what was written; the state that is kept. Conditions: none. -/
import Derived.Test.YtngbehdgjocndaaGreatSimN
namespace Go.Sim
variable [Lim]
open Classical
set_option linter.unusedSimpArgs false
set_option linter.unusedVariables false
noncomputable section
section
variable {P:Program} {cfg:Cfg} {aY:FuncId→List Arg→Option (Res×List Out)} {B:Base} {st st':St} {a:Act} {w:World} {W:Wit} {o:Oper} {nt:Nat}
theorem CRi.ait {L:Nat→Option Obj} {t:Nat} {y:AV} {v:Value} (h:CRi w (W.F (tg t)) [y] [v]):RR w W L (.im t y) v:=by
 show CRi w (W.F (tg (dm t y))) [y] [v]
 cases y with
 | sc u=>cases h with | sc hp _=>exact .sc hp .nil
 | _=>exact h
def Quiet (B:Base) (st:St) (a:Act) (w:World) (W:Wit) (st':St) (W':Wit):Prop:=
 Rel B st' a w W'∧st'.sl=st.sl∧Ext st.L W st'.L W'∧(∀t b,W.F t b→W'.F t b)∧Loose W W'
theorem Quiet.rr {W':Wit} (h:Quiet B st a w W st' W') {r:RV} {v:Value} (hr:RR w W st.L r v):RR w W' st'.L r v:=
 hr.ext (fun t b hb=>⟨h.2.2.2.1 _ _ hb,rfl⟩) h.2.2.1 (TrK.loose h.2.2.2.2)
theorem Quiet.trans {st1 st2:St} {W1 W2:Wit} (h:Quiet B st a w W st1 W1) (h':Quiet B st1 a w W1 st2 W2):Quiet B st a w W st2 W2:=
 ⟨h'.1,h'.2.1.trans h.2.1,h.2.2.1.trans h'.2.2.1,(fun t b hb=>h'.2.2.2.1 t b (h.2.2.2.1 t b hb)),h.2.2.2.2.trans h'.2.2.2.2⟩
theorem agl (h:Rel B st a w W) (k:Option Nat) {r:RV} {v:Value} (hr:RR w W st.L r v):∃W',Quiet B st a w W (st.UJ k r).2 W'∧RR w W' (st.UJ k r).2.L (st.UJ k r).1 v:=by
 have stay:∃W',Quiet B st a w W st W'∧RR w W' st.L r v:=⟨W,⟨h,rfl,Ext.refl _ _,(fun _ _ hb=>hb),Loose.refl W⟩,hr⟩
 have main:∀{x:RV×St},x=(match st.fix 0 r with | some x=>(.im x.1 x.2.1,x.2.2) | none=>(r,st))→∃W',Quiet B st a w W x.2 W'∧RR w W' x.2.L x.1 v:=by
  intro x hx
  cases hf:st.fix 0 r with
  | none=>rw [hf] at hx;subst hx;exact stay
  | some y=>
   obtain ⟨t,y,st1⟩:=y
   rw [hf] at hx;subst hx
   obtain ⟨W1,k1,k2,k3,k4,k5,k6⟩:=UL h hr hf
   exact ⟨W1,⟨k1,k2,k3,k4,k5⟩,k6.ait⟩
 cases r with
 | nil=>
  cases k with
  | none=>exact stay
  | some sz=>
   refine ⟨W,⟨h,rfl,Ext.refl _ _,(fun _ _ hb=>hb),Loose.refl W⟩,?_⟩
   have hr:v= .slice none 0 0:=hr
   subst hr
   exact .gy .nil
 | _=>exact main rfl
theorem KP:∀(rs:List RV) (vs:List Value) (ks:List (Option Nat)) {st:St} {W:Wit},Rel B st a w W→RRs w W st.L rs vs→∃W',Quiet B st a w W (st.Gx ks rs).2 W'∧RRs w W' (st.Gx ks rs).2.L (st.Gx ks rs).1 vs
 | [],vs,ks,st,W,h,hr=>⟨W,⟨h,rfl,Ext.refl _ _,(fun _ _ hb=>hb),Loose.refl W⟩,hr⟩
 | r::rs,vs,ks,st,W,h,hr=>by
  cases hr with
  | @cons _ _ v vs h1 h2=>
   obtain ⟨W1,k1,k2⟩:=agl h (ks.head?.bind id) h1
   obtain ⟨W2,l1,l2⟩:=KP rs vs ks.tail k1.1 (h2.ext (fun t b hb=>⟨k1.2.2.2.1 _ _ hb,rfl⟩) k1.2.2.1 (TrK.loose k1.2.2.2.2))
   exact ⟨W2,k1.trans l1,.cons (l1.rr k2) l2⟩
theorem ZP:∀(xs:List (Bool×List RV)) (vs:List Value) {st:St} {W:Wit},Rel B st a w W→sV w W st.L xs vs→∃W',Quiet B st a w W (st.WH xs).2 W'∧sV w W' (st.WH xs).2.L (st.WH xs).1 vs
 | [],vs,st,W,h,hr=>⟨W,⟨h,rfl,Ext.refl _ _,(fun _ _ hb=>hb),Loose.refl W⟩,hr⟩
 | x::xs,vs,st,W,h,hr=>by
  cases hr with
  | @cons _ _ v vs h1 h2=>
   have:∃W',Quiet B st a w W (st.Gx [] x.2).2 W'∧Dy w W' (st.Gx [] x.2).2.L (x.1,(st.Gx [] x.2).1) v:=by
    rcases h1 with ⟨p1,us,rfl,p2⟩ | ⟨p1,r,p2,p3⟩
    ·obtain ⟨W1,k1,k2⟩:=KP x.2 us.toList [] h p2
     exact ⟨W1,k1,.inl ⟨p1,us,rfl,k2⟩⟩
    ·rw [p2]
     obtain ⟨W1,k1,k2⟩:=KP [r] [v] [] h (.cons p3 .nil)
     refine ⟨W1,k1,.inr ⟨p1,(st.UJ none r).1,rfl,?_⟩⟩
     cases k2 with
     | cons k2 _=>exact k2
   obtain ⟨W1,k1,k2⟩:=this
   obtain ⟨W2,l1,l2⟩:=ZP xs vs k1.1 (h2.ext (fun t b hb=>⟨k1.2.2.2.1 _ _ hb,rfl⟩) k1.2.2.1 (TrK.loose k1.2.2.2.2))
   exact ⟨W2,k1.trans l1,.cons (k2.ext (fun t b hb=>⟨l1.2.2.2.1 _ _ hb,rfl⟩) l1.2.2.1 (TrK.loose l1.2.2.2.2)) l2⟩
theorem Rel.slot (h:Rel B st a w W) {d:Nat} {sv:SV} (hs:SR w W st.L sv (a.tmps.getD d undef)):Rel B (st.cZ d sv) a w W:=
 {f01:=h.f01,f12:=h.f12,fb:=h.fb,I9:=h.I9,qF:=h.qF,flt:=h.flt,olt:=h.olt,iJ:=h.iJ,par:=h.par,frame:=h.frame,size:=h.size,io:=h.io,uf:=h.uf,ouf:=h.ouf,tsh:=h.tsh
  slots:=fun t=>by
   by_cases e:t=d
   ·subst e;simp only [St.cZ,upd_same];exact hs
   ·simp only [St.cZ,upd_ne _ _ e];exact h.slots t
  defers:=h.defers,tmps:=h.tmps}
theorem adu (h:Rel B st a w W) (ks:List (Option Nat)) (d:Nat):∃W',Rel B (st.vV ks d) a w W':=by
 have hd:=h.slots d
 unfold St.vV
 cases hs:st.sl d with
 | v ag rs=>
  rw [hs] at hd
  rcases hd with ⟨p1,us,p0,p2⟩ | ⟨p1,r,p2,p3⟩
  ·obtain ⟨W1,k1,k2⟩:=KP rs us.toList ks h p2
   exact ⟨W1,Rel.slot k1.1 (sv:= .v ag (st.Gx ks rs).1) (.inl ⟨p1,us,p0,k2⟩)⟩
  ·simp only at p2
   subst p2
   obtain ⟨W1,k1,k2⟩:=KP [r] [a.tmps.getD d undef] ks h (.cons p3 .nil)
   cases k2 with
   | cons k2 _=>exact ⟨W1,Rel.slot k1.1 (sv:= .v ag (st.Gx ks [r]).1) (.inr ⟨p1,_,rfl,k2⟩)⟩
 | fn f cs=>exact ⟨W,h⟩
 | tup vs=>
  rw [hs] at hd
  obtain ⟨us,hu,hc⟩:=hd
  obtain ⟨W1,k1,k2⟩:=ZP vs us.toList h hc
  exact ⟨W1,k1.1.slot (sv:= .tup (st.WH vs).1) ⟨us,hu,k2⟩⟩
theorem ZQ (h:Rel B st a w W) (k:List Nat×List Nat):Rel B (st.norm k) a w W:=by
 have hlk:∀{α:Type} (d:α) (l:List Nat) (g:Nat→α) (j:Nat),look d (l.map fun t=>(t,g t)) j=d∨(look d (l.map fun t=>(t,g t)) j=g j):=by
  intro α d l g j
  induction l with
  | nil=>exact .inl rfl
  | cons t l ih=>
   simp only [List.map_cons,look]
   by_cases e:j=t
   ·subst e;right;simp
   ·rw [MF e];exact ih
 have hin:∀(l:List Nat) (g:Nat→Option Obj) (j:Nat),l.any (·.beq j)=true→look none (l.map fun t=>(t,g t)) j=g j:=by
  intro l g j hj
  induction l with
  | nil=>cases hj
  | cons t l ih=>
   simp only [List.map_cons,look]
   by_cases e:j=t
   ·subst e;simp
   ·rw [MF e]
    simp only [List.any_cons,MF (Ne.symm e),Bool.false_or] at hj
    exact ih hj
 let nob (ob:Obj):Obj:={ob with gen:=0,ctr:=0,cs:=ob.cs.map Cell.clean}
 have hL:∀o ob',(st.norm k).L o=some ob'→∃ob,st.L o=some ob∧ob'=nob ob:=by
  intro o ob' he
  rcases hlk (none:Option Obj) k.2 (fun o=>(st.L o).map nob) o with e | e
  ·have:(st.norm k).L o=none:=e
   rw [this] at he;cases he
  ·have:(st.norm k).L o=(st.L o).map nob:=e
   rw [this] at he
   obtain ⟨ob,h1,h2⟩:=Option.map_eq_some_iff.1 he
   exact ⟨ob,h1,h2.symm⟩
 have alk:∀o,k.2.any (·.beq o)=true→(st.norm k).L o=(st.L o).map nob:=fun o ho=>hin k.2 (fun o=>(st.L o).map nob) o ho
 have hany:∀{o:Nat} {b:Bool},(k.2.any (fun x=>o.beq x)&&b)=true→True:=fun _=>trivial
 have hcs:∀(ob:Obj) (c:Nat) x',(nob ob).cs[c]?=some x'→∃x,ob.cs[c]?=some x∧x'=x.clean:=by
  intro ob c x' he
  simp only [nob,List.getElem?_map] at he
  obtain ⟨x,h1,h2⟩:=Option.map_eq_some_iff.1 he
  exact ⟨x,h1,h2.symm⟩
 have rr:∀{r:RV} {v:Value},RR w W st.L r v→RR w W (st.norm k).L (F7 st k.2 r) v:=by
  intro r v hr
  have okc:∀{o s c:Nat},(k.2.any (·.beq o)&&match st.cell o s c with | some _=>true | none=>false)=true→∃ob x,st.cell o s c=some (ob,x)∧(st.norm k).L o=some (nob ob):=by
   intro o s c hb
   simp only [Bool.and_eq_true] at hb
   cases hc:st.cell o s c with
   | none=>rw [hc] at hb;cases hb.2
   | some p=>
    obtain ⟨ob,x⟩:=p
    refine ⟨ob,x,rfl,?_⟩
    rw [alk o hb.1,(eF hc).1];rfl
  cases r with
  | im t y=>
   have e:dm (dm t y) y=dm t y:=by cases y<;>rfl
   show CRi w (W.F (tg (dm (dm t y) y))) [y] [v]
   rw [e]
   exact hr
  | nil=>exact hr
  | qC=>trivial
  | fr y=>exact hr
  | ws y=>exact hr
  | inr o s c i j n=>trivial
  | own o s c=>
   simp only [F7]
   cases hb:(k.2.any (·.beq o)&&match st.cell o s c with | some _=>true | none=>false) with
   | false=>trivial
   | true=>
    obtain ⟨ob,x,hc,hn⟩:=okc hb
    obtain ⟨p1,p2,p3⟩:=eF hc
    simp only at p1 p2 p3
    obtain ⟨ob2,q1,q2,q3⟩:=hr
    rw [p1] at q1;cases q1
    exact ⟨nob ob,hn,Nat.zero_le _,fun x' hx' _=>q3 x p2 p3⟩
  | sub o s c lo hi=>
   simp only [F7]
   cases hb:(k.2.any (·.beq o)&&match st.cell o s c with | some _=>true | none=>false) with
   | false=>trivial
   | true=>
    obtain ⟨ob,x,hc,hn⟩:=okc hb
    obtain ⟨p1,p2,p3⟩:=eF hc
    simp only at p1 p2 p3
    obtain ⟨ob2,q1,q2,q3⟩:=hr
    rw [p1] at q1;cases q1
    refine ⟨nob ob,hn,Nat.zero_le _,fun x' hx' _ hm sz es he=>?_⟩
    obtain ⟨x0,r1,r2⟩:=hcs ob c x' hx'
    rw [p2] at r1;cases r1
    subst r2
    obtain ⟨m,s',t',y⟩:=x
    cases m with
    | gone=>exact absurd rfl hm
    | dd n i j=>exact absurd rfl hm
    | dp n=>exact q3 _ p2 p3 (by intro e;cases e) sz es he
    | _=>exact q3 _ p2 p3 hm sz es he
  | mp o s off=>
   simp only [F7]
   cases hb:(k.2.any (·.beq o)&&match st.L o with | some ob=>ob.gen.beq s | none=>false) with
   | false=>trivial
   | true=>
    simp only [Bool.and_eq_true] at hb
    obtain ⟨ob,q1,q2,q3⟩:=hr
    rw [q1] at hb
    exact ⟨nob ob,by rw [alk o hb.1,q1];rfl,Nat.zero_le _,fun _=>q3 (beq_eq hb.2)⟩
  | mpe o s c i off=>
   simp only [F7]
   cases hb:(k.2.any (·.beq o)&&match st.cell o s c with | some _=>true | none=>false) with
   | false=>trivial
   | true=>
    obtain ⟨ob,x,hc,hn⟩:=okc hb
    obtain ⟨p1,p2,p3⟩:=eF hc
    simp only at p1 p2 p3
    obtain ⟨ob2,q1,q2,q3⟩:=hr
    rw [p1] at q1;cases q1
    refine ⟨nob ob,hn,Nat.zero_le _,fun x' hx' _ hm sz es he=>?_⟩
    obtain ⟨x0,r1,r2⟩:=hcs ob c x' hx'
    rw [p2] at r1;cases r1
    subst r2
    obtain ⟨m,s',t',y⟩:=x
    cases m with
    | gone=>exact absurd rfl hm
    | dd n i j=>exact absurd rfl hm
    | dp n=>exact q3 _ p2 p3 (by intro e;cases e) sz es he
    | _=>exact q3 _ p2 p3 hm sz es he
 have rrs:∀{rs:List RV} {vs:List Value},RRs w W st.L rs vs→RRs w W (st.norm k).L (rs.map (F7 st k.2)) vs:=by
  intro rs vs hr
  induction hr with
  | nil=>exact .nil
  | cons h1 _ ih=>exact .cons (rr h1) ih
 have comp:∀{x:Bool×List RV} {v:Value},Dy w W st.L x v→Dy w W (st.norm k).L (x.1,x.2.map (F7 st k.2)) v:=by
  rintro x v (⟨h1,vs,rfl,h2⟩ | ⟨h1,r,h2,h3⟩)
  ·exact .inl ⟨h1,vs,rfl,rrs h2⟩
  ·exact .inr ⟨h1,F7 st k.2 r,by rw [h2];rfl,rr h3⟩
 exact
  {f01:=h.f01,f12:=h.f12,fb:=h.fb,I9:=h.I9,qF:=h.qF,flt:=h.flt,olt:=h.olt,frame:=h.frame,size:=h.size,io:=h.io,defers:=h.defers,tmps:=h.tmps,uf:=h.uf,ouf:=h.ouf,tsh:=h.tsh
   iJ:=fun o ob' he=>by
    obtain ⟨ob,h1,rfl⟩:=hL o ob' he
    have ho:=h.iJ o ob h1
    refine ⟨by rw [ho.len];simp [nob],fun c x' v hx hv=>?_,ho.mem,fun hf x' hx=>?_,fun x' hx=>?_⟩
    ·obtain ⟨x,hx1,rfl⟩:=hcs ob c x' hx
     have:=ho.cells c x v hx1 hv
     obtain ⟨m,s,t,y⟩:=x
     cases m with
     | sh=>cases y<;>exact this
     | dp n=>cases y<;>exact this
     | dd n i j=>trivial
     | _=>exact this
    ·obtain ⟨x,hx1,rfl⟩:=List.mem_map.1 hx
     have:=ho.fz hf x hx1
     obtain ⟨m,s',t',y⟩:=x
     cases m with
     | imm=>exact .inl rfl
     | gone=>exact .inr rfl
     | _=>rcases this with h | h<;>cases h
    ·obtain ⟨x,hx1,rfl⟩:=List.mem_map.1 hx
     obtain ⟨m,s',t',y⟩:=x
     cases m<;>exact Nat.le_refl _
   slots:=fun t=>by
    rcases hlk SV.qC k.1 (fun t=>ac8 st k.2 (st.sl t)) t with e | e
    ·have:(st.norm k).sl t= .qC:=e
     rw [this]
     exact .inr ⟨rfl,_,rfl,trivial⟩
    ·have:(st.norm k).sl t=ac8 st k.2 (st.sl t):=e
     rw [this]
     have hs:=h.slots t
     cases hx:st.sl t with
     | v ag cs=>rw [hx] at hs;exact comp hs
     | fn f cs=>
      rw [hx] at hs
      obtain ⟨vs,h1,h2⟩:=hs
      exact ⟨vs,h1,rrs h2⟩
     | tup xs=>
      rw [hx] at hs
      obtain ⟨vs,h1,h2⟩:=hs
      refine ⟨vs,h1,?_⟩
      have:∀{xs:List (Bool×List RV)} {us:List Value},sV w W st.L xs us→sV w W (st.norm k).L (xs.map fun v=>(v.1,v.2.map (F7 st k.2))) us:=by
       intro xs us hc
       induction hc with
       | nil=>exact .nil
       | cons h1 _ ih=>exact .cons (comp h1) ih
      exact this h2
   par:=fun o ob' he hi=>by
    obtain ⟨ob,h1,rfl⟩:=hL o ob' he
    exact h.par o ob h1 hi}
end
end
end Go.Sim
