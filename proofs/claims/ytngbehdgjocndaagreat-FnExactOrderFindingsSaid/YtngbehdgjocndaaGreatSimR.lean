/- The frame of a call as it begins. Conditions: none. -/
import Derived.Test.YtngbehdgjocndaaGreatSimP
namespace Go.Sim
variable [Lim]
open Classical
set_option linter.unusedSimpArgs false
set_option linter.unusedVariables false
noncomputable section
def F8 (W:Wit) (o b:Nat):Prop:=W.own b=some (.root o)∨(∃c,W.own b=some (.cell o c))∨(o=frB∧W.own b=some (.tr false))
def vZ (w:World) (Fp:Nat→Prop) (ag:Bool) (as:List AV) (v:Value):Prop:=
 (ag=true∧∃us,v= .agg us∧CRi w Fp as us.toList)∨(ag=false∧∃y,as=[y]∧CRi w Fp [y] [v])
section
variable {P:Program} {cfg:Cfg} {aY:FuncId→List Arg→Option (Res×List Out)} {B:Base} {st st':St} {a:Act} {w:World} {W:Wit} {o:Oper} {nt f:Nat} {ops:Array Oper}
theorem vZ.mono {w':World} {Fp Fp':Nat→Prop} {ag:Bool} {as:List AV} {v:Value} (h:vZ w Fp ag as v) (hm:∀b,Fp b→Fp' b∧w'.heap[b]?=w.heap[b]?):vZ w' Fp' ag as v:=by
 rcases h with ⟨h1,us,h2,h3⟩ | ⟨h1,y,h2,h3⟩
 ·exact .inl ⟨h1,us,h2,h3.mono hm⟩
 ·exact .inr ⟨h1,y,h2,h3.mono hm⟩
def aiv (W:Wit) (r:RV) (b:Nat):Prop:=
 match r with
 | .fr _=>W.own b=some (.tr false)
 | r=>Refs W r b
omit [Lim] in
theorem YF {r:RV} {b:Nat} (h:aiv W r b):∃o,(match r with | .own o _ _ | .sub o _ _ _ _ | .mp o _ _ | .mpe o _ _ _ _=>some o | .fr _=>some frB | _=>none)=some o∧F8 W o b:=by
 cases r with
 | fr a=>exact ⟨_,rfl,.inr (.inr ⟨rfl,h⟩)⟩
 | own o s c=>exact ⟨_,rfl,h.imp id .inl⟩
 | sub o s c lo hi=>exact ⟨_,rfl,h.imp id .inl⟩
 | mp o s off=>exact ⟨_,rfl,h.imp id .inl⟩
 | mpe o s c i off=>exact ⟨_,rfl,h.imp id .inl⟩
 | _=>exact h.elim
theorem adG (h:Rel B st a w W) {sz:Nat} {r:RV} {v:Value} {t:Nat} {y:AV} {bo:Bool} (hr:RR w W st.L r v) (hv:st.WE sz r=some (bo,t,y)):
 CRi w (fun b=>W.F (tg t) b∨(bo=true∧aiv W r b)) [y] [v]:=by
 cases r with
 | fr a=>
  simp only [St.WE,Option.some.injEq,Prod.mk.injEq] at hv
  obtain ⟨rfl,rfl,rfl⟩:=hv
  have hr:CRi w (fun b=>W.own b=some (.tr false)) [a] [v]:=hr
  exact hr.mono fun b hb=>⟨.inr ⟨rfl,hb⟩,rfl⟩
 | _=>exact af8 (sz:=sz) h hr hv
theorem EO (h:Rel B st a w W):∀(rs:List RV) (vs:List Value) {ks:List (Option Nat)} {bs:List Nat} {t:Nat} {as:List AV},RRs w W st.L rs vs→su st ks rs=some (bs,t,as)→
 CRi w (fun b=>W.F (tg t) b∨∃o∈bs,F8 W o b) as vs
 | [],vs,ks,bs,t,as,hr,e=>by
  cases hr
  simp only [su,Option.some.injEq,Prod.mk.injEq] at e
  obtain ⟨rfl,rfl,rfl⟩:=e
  exact .nil
 | r::rs,vs,ks,bs,t,as,hr,e=>by
  cases hr with
  | @cons _ _ v vs h1 h2=>
   simp only [su] at e
   obtain ⟨⟨bo,t1,y⟩,e1,e⟩:=Option.bind_eq_some_iff.1 e
   obtain ⟨⟨bs2,t2,as2⟩,e2,e⟩:=Option.map_eq_some_iff.1 e
   simp only [Prod.mk.injEq] at e
   obtain ⟨q1,q2,q3⟩:=e
   have hv:=adG h h1 e1
   have ih:=EO h rs vs h2 e2
   subst q2 q3
   refine CRi.cons (hv.mono fun b hb=>⟨?_,rfl⟩) (ih.mono fun b hb=>⟨?_,rfl⟩)
   ·rcases hb with hb | ⟨hbo,hb⟩
    ·exact .inl (h.fle (Nat.le_max_left _ _) hb)
    ·obtain ⟨o,ho,hb⟩:=YF hb
     refine .inr ⟨o,?_,hb⟩
     subst hbo q1
     cases r<;>first | (cases ho;simp) | cases ho
   ·rcases hb with hb | ⟨o,ho,hb⟩
    ·exact .inl (h.fle (Nat.le_max_right _ _) hb)
    ·refine .inr ⟨o,?_,hb⟩
     subst q1
     split<;>first | exact List.mem_cons_of_mem _ ho | exact ho
abbrev iE (B:Base) (st:St) (a:Act) (w:World) (W:Wit) (st':St) (W':Wit):Prop:=Quiet B st a w W st' W'
theorem iE.refl (h:Rel B st a w W):iE B st a w W st W:=⟨h,rfl,Ext.refl _ _,(fun _ _ hb=>hb),Loose.refl W⟩
theorem iE.trans {st1 st2:St} {W1 W2:Wit} (h:iE B st a w W st1 W1) (h':iE B st1 a w W1 st2 W2):iE B st a w W st2 W2:=Quiet.trans h h'
theorem iE.sr {W':Wit} (h:iE B st a w W st' W') {x:SV} {v:Value} (hs:SR w W st.L x v):SR w W' st'.L x v:=
 hs.ext (fun t b hb=>⟨h.2.2.2.1 _ _ hb,rfl⟩) h.2.2.1 (TrK.loose h.2.2.2.2)
omit [Lim] in
theorem Xj {o:Nat} {ob:Obj} (hL:st.L o=some ob):st.setObj o ob=st:=by
 have:upd st.L o (some ob)=st.L:=by
  funext i
  by_cases e:i=o
  ·subst e;rw [upd_same,hL]
  ·rw [upd_ne _ _ e]
 simp only [St.setObj,this]
theorem xI:∀(l:List Nat) {st:St} {W:Wit} {o:Nat} {ob:Obj},Rel B st a w W→st.L o=some ob→∃W',iE B st a w W (st.setObj o (ob.lD l)) W'
 | [],st,W,o,ob,h,hL=>by
  simp only [Obj.lD]
  rw [Xj hL]
  exact ⟨W,iE.refl h⟩
 | c::l,st,W,o,ob,h,hL=>by
  simp only [Obj.lD]
  have keep:∃W',iE B st a w W (st.setObj o (ob.lD l)) W':=xI l h hL
  cases hc:ob.cs[c]? with
  | none=>exact keep
  | some x=>
   obtain ⟨m,s,t,y⟩:=x
   cases m with
   | sh=>
    have hcell:st.cell o s c=some (ob,⟨.sh,s,t,y⟩):=by simp [St.cell,hL,hc]
    obtain ⟨v,hv,_⟩:=h.cellAt hcell
    obtain ⟨W1,k1,k2,k3,k4,_⟩:=xH h hcell (.inl rfl) hv
    obtain ⟨W2,l1⟩:=xI l (o:=o) (ob:=ob.bQ c .imm) k1 (by simp [St.setObj,upd_same])
    have e:(st.setObj o (ob.bQ c .imm)).setObj o ((ob.bQ c .imm).lD l)=st.setObj o ((ob.bQ c .imm).lD l):=by
     have:upd (upd st.L o (some (ob.bQ c .imm))) o (some ((ob.bQ c .imm).lD l))=upd st.L o (some ((ob.bQ c .imm).lD l)):=by
      funext i
      by_cases e:i=o
      ·subst e;rw [upd_same,upd_same]
      ·rw [upd_ne _ _ e,upd_ne _ _ e,upd_ne _ _ e]
     simp only [St.setObj,this]
    rw [e] at l1
    exact ⟨W2,iE.trans ⟨k1,rfl,k2,k3,k4⟩ l1⟩
   | dp n=>
    have hcell:st.cell o s c=some (ob,⟨.dp n,s,t,y⟩):=by simp [St.cell,hL,hc]
    obtain ⟨v,hv,_⟩:=h.cellAt hcell
    obtain ⟨W1,k1,k2,k3,k4,_⟩:=xH h hcell (.inr ⟨n,rfl⟩) hv
    obtain ⟨W2,l1⟩:=xI l (o:=o) (ob:=ob.bQ c .imm) k1 (by simp [St.setObj,upd_same])
    have e:(st.setObj o (ob.bQ c .imm)).setObj o ((ob.bQ c .imm).lD l)=st.setObj o ((ob.bQ c .imm).lD l):=by
     have:upd (upd st.L o (some (ob.bQ c .imm))) o (some ((ob.bQ c .imm).lD l))=upd st.L o (some ((ob.bQ c .imm).lD l)):=by
      funext i
      by_cases e:i=o
      ·subst e;rw [upd_same,upd_same]
      ·rw [upd_ne _ _ e,upd_ne _ _ e,upd_ne _ _ e]
     simp only [St.setObj,this]
    rw [e] at l1
    exact ⟨W2,iE.trans ⟨k1,rfl,k2,k3,k4⟩ l1⟩
   | _=>exact keep
def GY (w:World) (W:Wit) (j:Nat):Arg→Value→Prop
 | .im 0 ag as,v=>vZ w (W.F 0) ag as v
 | .mv sz es,v=>mg w W (j*4096) ⟨.sh,0,.row sz es⟩ v
 | .mvs cs,v=>cs.length<4096∧(∀x∈cs,x.1= .imm∨x.1= .sh)∧∃us,v= .agg us∧kL w W (j*4096) (cs.map fun x=>⟨x.1,0,x.2⟩) us.toList
 | _,_=>False
theorem GY.quiet {W':Wit} {j:Nat} {x:Arg} {v:Value} (hq:iE B st a w W st' W') (h:GY w W j x v):GY w W' j x v:=by
 cases x with
 | im t ag as=>
  cases t with
  | zero=>exact vZ.mono h fun b hb=>⟨hq.2.2.2.1 _ _ hb,rfl⟩
  | succ t=>exact h.elim
 | mvs cs=>
  obtain ⟨h1,h2,us,h3,h4⟩:=h
  exact ⟨h1,h2,us,h3,h4.step (fun t b hb=>⟨hq.2.2.2.1 _ _ hb,rfl⟩) (fun b j hb=>⟨hq.2.2.2.2 _ _ rfl hb,rfl⟩) (TrK.loose hq.2.2.2.2)⟩
 | mv sz es=>exact mg.step (show mg w W (j*4096) ⟨.sh,0,.row sz es⟩ v from h) (fun t b hb=>⟨hq.2.2.2.1 _ _ hb,rfl⟩) (fun b hb=>⟨hq.2.2.2.2 _ _ rfl hb,rfl⟩) (TrK.loose hq.2.2.2.2)
 | _=>exact h.elim
theorem vZ.of {Fp:Nat→Prop} {L:Nat→Option Obj} {ag:Bool} {cs:List RV} {as:List AV} {v:Value} (hs:SR w W L (.v ag cs) v) (h:∀vs,RRs w W L cs vs→CRi w Fp as vs):vZ w Fp ag as v:=by
 rcases hs with ⟨h1,vs,rfl,h2⟩ | ⟨h1,r,h2,h3⟩
 ·exact .inl ⟨h1,vs,rfl,h _ h2⟩
 ·simp only at h2
  subst h2
  have hc:=h [v] (.cons h3 .nil)
  obtain ⟨y,hy⟩:∃y,as=[y]:=List.length_eq_one_iff.1 (by rw [hc.length];rfl)
  subst hy
  exact .inr ⟨h1,y,rfl,hc⟩
theorem agu (h:Rel B st a w W) {m:PM} {ks:List (Option Nat)} {x:SV} {v:Value} {oa:Option Arg} (hs:SR w W st.L x v) (e:st.SE m ks x=some (oa,st')) (j:Nat):
 ∃W',iE B st a w W st' W'∧∀y,oa=some y→GY w W' j y v:=by
 have stay:some ((none:Option Arg),st)=some (oa,st')→∃W',iE B st a w W st' W'∧∀y,oa=some y→GY w W' j y v:=by
  intro e
  cases e
  exact ⟨W,iE.refl h,fun y hy=>by cases hy⟩
 unfold St.SE at e
 split at e
 ·rename_i ag cs
  obtain ⟨⟨t,as,st1⟩,h1,e⟩:=Option.bind_eq_some_iff.1 e
  split at e
  ·rename_i ht
   have ht:=beq_eq ht
   cases e
   rcases hs with ⟨p1,vs,rfl,p2⟩ | ⟨p1,r,p2,p3⟩
   ·obtain ⟨W1,k1,k2,k3,k4,k5,k6⟩:=BR cs vs.toList h p2 h1
    refine ⟨W1,⟨k1,k2,k3,k4,k5⟩,fun y hy=>?_⟩
    cases hy
    exact .inl ⟨p1,vs,rfl,k6.mono fun b hb=>⟨by subst ht;exact hb,rfl⟩⟩
   ·simp only at p2
    subst p2
    obtain ⟨W1,k1,k2,k3,k4,k5,k6⟩:=BR [r] [v] h (.cons p3 .nil) h1
    refine ⟨W1,⟨k1,k2,k3,k4,k5⟩,fun y hy=>?_⟩
    cases hy
    obtain ⟨z,hz⟩:∃z,as=[z]:=List.length_eq_one_iff.1 (by rw [k6.length];rfl)
    subst hz
    exact .inr ⟨p1,z,rfl,k6.mono fun b hb=>⟨by subst ht;exact hb,rfl⟩⟩
  ·cases e
 ·rename_i r
  obtain ⟨⟨⟨m,t,y⟩,st1⟩,h1,e⟩:=Option.bind_eq_some_iff.1 e
  split at e
  ·cases e
  ·rename_i ht
   have ht:t=0:=by
    have:t.beq 0=true:=by simpa using ht
    exact beq_eq this
   subst ht
   obtain ⟨W1,k1,k2,k3,k4,k5,k6⟩:=zM h (eX hs) h1 (j*4096)
   cases m with
   | sh=>
    cases y with
    | row sz es=>
     cases e
     exact ⟨W1,⟨k1,k2,k3,k4,k5⟩,fun y hy=>by cases hy;exact k6⟩
    | _=>cases e
   | _=>cases e
 ·rename_i cs
  obtain ⟨⟨xs,st1⟩,h1,e⟩:=Option.bind_eq_some_iff.1 e
  split at e
  ·rename_i hc
   simp only [Bool.and_eq_true,List.all_eq_true] at hc
   cases e
   rcases hs with ⟨_,vs,rfl,p2⟩ | ⟨p1,_⟩
   ·obtain ⟨W1,k1,k2,k3,k4,k5,k6⟩:=zn cs vs.toList (j*4096) h p2 h1
    refine ⟨W1,⟨k1,k2,k3,k4,k5⟩,fun y hy=>?_⟩
    cases hy
    have hx:∀x∈xs,(x.m= .imm∧dm x.t x.a=0)∨(x.m= .sh∧x.t=0):=by
     intro x hx
     have:=hc.2 x hx
     unfold CV.plain0 at this
     obtain ⟨m,t,y⟩:=x
     cases m<;>first | exact .inl ⟨rfl,beq_eq this⟩ | exact .inr ⟨rfl,beq_eq this⟩ | cases this
    refine ⟨by simpa using zi hc.1,fun x hm=>?_,vs,rfl,?_,fun i x v hxi hv=>?_⟩
    ·obtain ⟨z,hz,rfl⟩:=List.mem_map.1 hm
     rcases hx z hz with q | q
     ·exact .inl q.1
     ·exact .inr q.1
    ·simpa using k6.1
    ·simp only [List.getElem?_map,Option.map_map] at hxi
     obtain ⟨z,hz,rfl⟩:=Option.map_eq_some_iff.1 hxi
     have hd:=k6.2 i z v hz hv
     have hzz:=hx z (List.mem_of_getElem? hz)
     obtain ⟨m,t,y⟩:=z
     rcases hzz with ⟨q1,q2⟩ | ⟨q1,q2⟩
     ·simp only at q1 q2
      subst q1
      show CRi w (W1.F (tg (dm 0 y))) [y] [v]
      have hd:CRi w (W1.F (tg (dm t y))) [y] [v]:=hd
      rw [q2] at hd
      have e0:dm 0 y=0:=by cases y<;>rfl
      rw [e0]
      exact hd
     ·simp only at q1 q2
      subst q1 q2
      exact hd
   ·cases p1
  ·cases e
 ·rename_i ms o s
  obtain ⟨ob,h1,e⟩:=Option.bind_eq_some_iff.1 e
  split at e
  ·cases e
   obtain ⟨W1,k1⟩:=xI (PG 0 ms) h (xW h1).1
   exact ⟨W1,k1,fun y hy=>by cases hy⟩
  ·cases e
 ·exact stay e
inductive SRs (w:World) (W:Wit) (L:Nat→Option Obj):List (TypeId×SV)→List Value→Prop
 | nil:SRs w W L [] []
 | cons {x xs v vs}:SR w W L x.2 v→SRs w W L xs vs→SRs w W L (x::xs) (v::vs)
theorem SRs.quiet {W':Wit} (hq:iE B st a w W st' W') {xs:List (TypeId×SV)} {vs:List Value} (h:SRs w W st.L xs vs):SRs w W' st'.L xs vs:=by
 induction h with
 | nil=>exact .nil
 | cons h1 _ ih=>exact .cons (hq.sr h1) ih
theorem Qe:∀(xs:List (TypeId×SV)) (vs:List Value) {st st':St} {W:Wit} {f j:Nat} {pre:List (Option Arg)},Rel B st a w W→SRs w W st.L xs vs→st.wS P cfg f j xs=some (pre,st')→
 ∃W',iE B st a w W st' W'∧∀(i:Nat) y v,pre[i]?=some (some y)→vs[i]?=some v→GY w W' (j+i) y v
 | [],vs,st,st',W,f,j,pre,h,hs,e=>by
  cases e
  exact ⟨W,iE.refl h,fun i y v hp=>by simp at hp⟩
 | (t,x)::xs,vs,st,st',W,f,j,pre,h,hs,e=>by
  cases hs with
  | @cons _ _ v vs h1 h2=>
   simp only [St.wS] at e
   obtain ⟨⟨oa,st1⟩,e1,e⟩:=Option.bind_eq_some_iff.1 e
   obtain ⟨⟨pre2,st2⟩,e2,e⟩:=Option.map_eq_some_iff.1 e
   cases e
   obtain ⟨W1,k1,k2⟩:=agu h h1 e1 j
   obtain ⟨W2,l1,l2⟩:=Qe xs vs k1.1 (h2.quiet k1) e2
   refine ⟨W2,k1.trans l1,fun i y v hp hv=>?_⟩
   cases i with
   | zero=>
    simp only [List.getElem?_cons_zero,Option.some.injEq] at hp hv
    subst hv
    exact (k2 y hp).quiet l1
   | succ i=>
    have:=l2 i y v (by simpa using hp) (by simpa using hv)
    rwa [show j+(i+1)=j+1+i by omega]
end
end
end Go.Sim
namespace Go.Sim
variable [Lim]
open Classical
set_option linter.unusedSimpArgs false
set_option linter.unusedVariables false
noncomputable section
inductive LK where
 | no
 | obj (o:Nat)
 | row (o c:Nat)
 | det
def LK.id? :LK→Option Nat
 | .obj o | .row o _=>some o
 | _=>none
def LK.oc? :LK→Option (Nat×Nat)
 | .obj o=>some (o,0)
 | .row o c=>some (o,c)
 | _=>none
def UZ (iot:Nat) (xs:List Cell) (cs:List (OM×AV)):Prop:=
 xs.length=cs.length∧∀(c:Nat) m y,cs[c]?=some (m,y)→∃s t,xs[c]?=some ⟨m.get,s,t,y⟩∧((m= .imm∧dm t y≤iot)∨(m= .sh∧t=0)∨(m= .gone∧dm t y=0))
omit [Lim] in
theorem KU:∀{ms:List OM} {xs:List Cell} {cs:List (OM×AV)} {t iot:Nat},fits ms xs=some (cs,t)→t≤iot→UZ iot xs cs
 | ms,[],cs,t,iot,e,ht=>by
  cases ms with
  | nil=>cases e;exact ⟨rfl,fun c m y h=>by simp at h⟩
  | cons m ms=>cases m<;>simp [fits] at e
 | ms,⟨m,s,t0,y⟩::xs,cs,t,iot,e,ht=>by
  cases ms with
  | nil=>simp [fits] at e
  | cons m' ms=>
   cases m' with
   | imm=>
    cases m with
    | imm=>
     simp only [fits] at e
     obtain ⟨⟨cs',t'⟩,h1,h2⟩:=Option.map_eq_some_iff.1 e
     cases h2
     obtain ⟨p1,p2⟩:=KU h1 (Nat.le_trans (Nat.le_max_right _ _) ht)
     refine ⟨by simp [p1],fun c m y' hc=>?_⟩
     cases c with
     | zero=>simp at hc;obtain ⟨rfl,rfl⟩:=hc;exact ⟨s,t0,rfl,.inl ⟨rfl,Nat.le_trans (Nat.le_max_left _ _) ht⟩⟩
     | succ c=>simpa using p2 c m y' (by simpa using hc)
    | _=>simp [fits] at e
   | sh=>
    cases m with
    | sh=>
     simp only [fits] at e
     split at e
     ·rename_i h0
      obtain ⟨⟨cs',t'⟩,h1,h2⟩:=Option.map_eq_some_iff.1 e
      cases h2
      obtain ⟨p1,p2⟩:=KU h1 ht
      refine ⟨by simp [p1],fun c m y' hc=>?_⟩
      cases c with
      | zero=>simp at hc;obtain ⟨rfl,rfl⟩:=hc;exact ⟨s,t0,rfl,.inr (.inl ⟨rfl,beq_eq h0⟩)⟩
      | succ c=>simpa using p2 c m y' (by simpa using hc)
     ·cases e
    | _=>simp [fits] at e
   | gone=>
    cases m with
    | imm=>
     simp only [fits] at e
     split at e
     ·rename_i h0
      obtain ⟨⟨cs',t'⟩,h1,h2⟩:=Option.map_eq_some_iff.1 e
      cases h2
      obtain ⟨p1,p2⟩:=KU h1 ht
      refine ⟨by simp [p1],fun c m y' hc=>?_⟩
      cases c with
      | zero=>simp at hc;obtain ⟨rfl,rfl⟩:=hc;exact ⟨s,t0,rfl,.inr (.inr ⟨rfl,beq_eq h0⟩)⟩
      | succ c=>simpa using p2 c m y' (by simpa using hc)
     ·cases e
    | _=>simp [fits] at e
   | _=>cases m<;>simp [fits] at e
section
variable {P:Program} {cfg:Cfg} {aY:FuncId→List Arg→Option (Res×List Out)} {B:Base} {st st':St} {a:Act} {w:World} {W:Wit} {o:Oper} {nt f:Nat} {ops:Array Oper}
theorem CRi.Ol {w:World} {Fp:Nat→Prop} {n:Nat} {as:List AV} {vs:List Value} (h:CRi w Fp as vs):CRi w Fp (Sim.Ol n as) vs:=by
 unfold Sim.Ol
 split
 ·rename_i cs off
  cases h with
  | @cp _ _ _ _ b ik arr T fr us rest hb hh hd hc hr=>
   cases hr
   refine .cp (ik:=ik+off) (us:=(us.drop off).take n) (rest:=(us.drop off).drop n++rest.drop (off - us.length)) hb hh ?_ ((hc.drop off).take n) .nil
   rw [←List.drop_drop,hd,List.drop_append,←List.append_assoc,List.take_append_drop]
 ·exact h
theorem vZ.cut {w:World} {Fp:Nat→Prop} {n:Nat} {ag:Bool} {as:List AV} {v:Value} (h:vZ w Fp ag as v):vZ w Fp ag (Sim.Ol n as) v:=by
 rcases h with ⟨h1,us,h2,h3⟩ | ⟨h1,y,rfl,h3⟩
 ·exact .inl ⟨h1,us,h2,h3.Ol⟩
 ·have:=h3.Ol (n:=n)
  refine .inr ⟨h1,?_⟩
  unfold Sim.Ol at this ⊢
  split at this<;>rename_i e
  ·cases e
   exact ⟨_,rfl,this⟩
  ·exact ⟨y,rfl,this⟩
def ajp (w:World) (W:Wit) (ag:Bool) (as:List AV) (v:Value):Prop:=
 (ag=true∧∃us,v= .agg us∧CRs w (fun b=>W.own b=some (.tr true)) as us.toList)∨(ag=false∧∃y,as=[y]∧CRs w (fun b=>W.own b=some (.tr true)) [y] [v])
def aiw (w:World) (W:Wit) (j:Nat) (x:Arg) (v:Value) (xs:List CV) (us:List Value):Prop:=
 kL w W (j*4096) xs us∧xs.length<4096∧(∀y∈xs,y.t=0∧(y.m= .imm∨y.m= .sh))∧
  ((∃sz es,x= .mv sz es∧xs=[⟨.sh,0,.row sz es⟩]∧us=[v])∨(∃cs,x= .mvs cs∧xs=(cs.map fun x=>⟨x.1,0,x.2⟩)∧v= .agg us.toArray))
def ZW (w:World) (W:Wit) (st:St) (T iot:Nat) (bor:List Nat) (j:Nat) (x:Arg) (v:Value):LK→Prop
 | .no=>∃ag as,(x= .im 0 ag as∧vZ w (W.F 0) ag as v)∨(x= .im 2 ag as∧vZ w (fun b=>W.F (tg T) b∨∃o∈bor,F8 W o b) ag as v)∨(x= .ws ag as∧ajp w W ag as v)
 | .obj o=>∃ob cs,x= .ptr ob.ag cs∧st.L o=some ob∧ob.mem=true∧ob.fz=false∧v= .pointer (some ⟨W.blk o,0,none⟩)∧UZ iot ob.cs cs
 | .row o c=>∃ob s sz es,x= .ow sz es∧st.L o=some ob∧ob.cs[c]?=some ⟨.sh,s,0,.row sz es⟩∧(W.vals o)[c]?=some v
 | .det=>∃xs us,aiw w W j x v xs us
theorem ajq (h:Rel B st a w W) {m:PM} {ks:List (Option Nat)} {x:SV} {v:Value} {oa:Option Arg} {p:Seen} {j T iot:Nat} {bor:List Nat} (hs:SR w W st.L x v) (hfix:∀y,oa=some y→GY w W j y v)
 (e:st.see m ks x oa=some p) (hT:p.tag≤T) (hi:p.fO≤iot) (hb:∀o∈p.bor,o∈bor):
 ∃lk,ZW w W st T iot bor j p.arg v lk∧p.iZ.map (fun x=>(x.1,x.2.2))=lk.oc?.toList:=by
 cases oa with
 | some y=>
  simp only [St.see,Option.some.injEq] at e
  subst e
  have hf:=hfix y rfl
  cases y with
  | im t ag as=>
   cases t with
   | zero=>exact ⟨.no,⟨ag,as,.inl ⟨rfl,hf⟩⟩,rfl⟩
   | succ t=>exact hf.elim
  | mv sz es=>exact ⟨.det,⟨_,_,kL.cons (us:=[]) (show mg w W (j*4096) ⟨.sh,0,.row sz es⟩ v from hf) kL.nil,by show 1<4096;omega,(fun y hy=>by simp at hy;subst hy;exact ⟨rfl,.inr rfl⟩),.inl ⟨sz,es,rfl,rfl,rfl⟩⟩,rfl⟩
  | mvs cs=>
   obtain ⟨h1,h2,us,h3,h4⟩:=hf
   refine ⟨.det,⟨_,_,h4,by simpa using h1,fun y hy=>?_,.inr ⟨cs,rfl,rfl,by simpa using h3⟩⟩,rfl⟩
   obtain ⟨z,hz,rfl⟩:=List.mem_map.1 hy
   exact ⟨rfl,h2 z hz⟩
  | _=>exact hf.elim
 | none=>
  have adH:∀{t:Nat} {bs:List Nat} {b:Nat},t≤T→(∀o∈bs,o∈bor)→(W.F (tg t) b∨∃o∈bs,F8 W o b)→(W.F (tg T) b∨∃o∈bor,F8 W o b):=by
   intro t bs b ht hbs hb
   rcases hb with hb | ⟨o,ho,hb⟩
   ·exact .inl (h.fle ht hb)
   ·exact .inr ⟨o,hbs o ho,hb⟩
  simp only [St.see] at e
  split at e
  ·rename_i es ag cs
   obtain ⟨⟨bs,t,as⟩,h1,e⟩:=Option.map_eq_some_iff.1 e
   subst e
   refine ⟨.no,⟨ag,as,.inr (.inl ⟨rfl,?_⟩)⟩,rfl⟩
   exact vZ.of hs fun vs hr=>(EO h cs vs hr h1).mono fun b hb'=>⟨adH hT hb hb',rfl⟩
  ·rename_i n ag cs
   obtain ⟨⟨bs,t,as⟩,h1,e⟩:=Option.map_eq_some_iff.1 e
   subst e
   refine ⟨.no,⟨ag,_,.inr (.inl ⟨rfl,?_⟩)⟩,rfl⟩
   exact (vZ.of hs fun vs hr=>(EO h cs vs hr h1).mono fun b hb'=>⟨adH hT hb hb',rfl⟩).cut
  ·rename_i es f cs
   obtain ⟨⟨bs,t,as⟩,h1,e⟩:=Option.map_eq_some_iff.1 e
   subst e
   refine ⟨.no,⟨false,_,.inr (.inl ⟨rfl,?_⟩)⟩,rfl⟩
   obtain ⟨us,hv,hr⟩:=hs
   have hc:=(EO h cs us.toList hr h1).mono (w':=w) fun b hb'=>⟨adH hT hb hb',rfl⟩
   refine .inr ⟨rfl,_,rfl,?_⟩
   have:=CRi.clo (f:=f) hc .nil
   rw [hv]
   simpa using this
  ·rename_i ms o s
   obtain ⟨ob,h1,e⟩:=Option.bind_eq_some_iff.1 e
   split at e
   ·rename_i hc
    simp only [Bool.and_eq_true,Bool.not_eq_true'] at hc
    obtain ⟨⟨cs,t⟩,h2,e⟩:=Option.map_eq_some_iff.1 e
    subst e
    obtain ⟨hL,hg⟩:=xW h1
    have hr:=eX hs
    obtain ⟨ob2,q1,_,q3⟩:=hr
    rw [hL] at q1;cases q1
    refine ⟨.obj o,⟨ob,cs,rfl,hL,hc.1,hc.2,(q3 hg).2,KU h2 hi⟩,rfl⟩
   ·cases e
  ·rename_i o s c
   obtain ⟨⟨ob,m,s',t,y⟩,h1,e⟩:=Option.bind_eq_some_iff.1 e
   obtain ⟨hL,hx,hss⟩:=eF h1
   simp only at hL hx hss
   obtain ⟨ob2,q1,_,q3⟩:=eX hs
   rw [hL] at q1;cases q1
   have hvv:=q3 _ hx hss
   split at e
   ·rename_i heq
    cases heq
    cases e
    refine ⟨.row o c,⟨ob,_,_,_,rfl,hL,hx,hvv⟩,rfl⟩
   ·cases e
  ·rename_i y
   cases e
   exact ⟨.no,⟨false,[y],.inr (.inr ⟨rfl,.inr ⟨rfl,y,rfl,eX hs⟩⟩)⟩,rfl⟩
  ·rename_i ag cs
   obtain ⟨as,h1,e⟩:=Option.map_eq_some_iff.1 e
   subst e
   refine ⟨.no,⟨ag,as,.inr (.inr ⟨rfl,?_⟩)⟩,rfl⟩
   have all:∀{cs:List RV} {as:List AV} {us:List Value},cs.mapM RV.shape=some as→RRs w W st.L cs us→CRs w (fun b=>W.own b=some (.tr true)) as us:=by
    intro cs
    induction cs with
    | nil=>intro as us e hr;cases hr;cases e;exact .nil
    | cons r cs ih=>
     intro as us e hr
     cases hr with
     | @cons _ _ v us k1 k2=>
      rw [List.mapM_cons] at e
      obtain ⟨y,e1,e⟩:=Option.bind_eq_some_iff.1 e
      obtain ⟨as',e2,e⟩:=Option.bind_eq_some_iff.1 e
      cases e
      refine CRs.cons ?_ (ih e2 k2)
      cases r with
      | ws z=>cases e1;exact k1
      | im t z=>
       cases z with
       | sc u=>
        cases e1
        have k1:CRi w (W.F (tg (dm t (.sc u)))) [.sc u] [v]:=k1
        cases k1 with | sc hp _=>exact .sc hp .nil
       | _=>cases e1
      | _=>cases e1
   rcases hs with ⟨p1,us,rfl,p2⟩ | ⟨p1,r,p2,p3⟩
   ·exact .inl ⟨p1,us,rfl,all h1 p2⟩
   ·simp only at p2
    subst p2
    have hc:=all h1 (.cons p3 .nil)
    obtain ⟨y,hy⟩:∃y,as=[y]:=List.length_eq_one_iff.1 (by rw [hc.length];rfl)
    subst hy
    exact .inr ⟨p1,y,rfl,hc⟩
  ·cases e
structure ML (w:World) (W:Wit) (st:St) (T iot:Nat) (bor:List Nat) (args:List Arg) (vs:List Value) (lks:List LK) (j0:Nat):Prop where
 len:lks.length=args.length
 Qg:vs.length=args.length
 at_:∀(i:Nat) x v lk,args[i]?=some x→vs[i]?=some v→lks[i]?=some lk→ZW w W st T iot bor (j0+i) x v lk
theorem Ug (h:Rel B st a w W) {T iot:Nat} {bor:List Nat}:∀(xs:List (TypeId×SV)) (vs:List Value) {f j:Nat} {pre:List (Option Arg)} {p:Pn},SRs w W st.L xs vs→(∀(i:Nat) y v,pre[i]?=some (some y)→vs[i]?=some v→GY w W (j+i) y v)→
 st.vX P cfg f j xs pre=some p→p.tag≤T→p.fO≤iot→(∀o∈p.bor,o∈bor)→
 ∃lks,ML w W st T iot bor p.args vs lks j∧p.iZ.map (fun x=>(x.1,x.2.2))=lks.filterMap LK.oc? ∧p.args.length=xs.length
 | [],vs,f,j,pre,p,hs,hfix,e,hT,hi,hb=>by
  cases hs
  cases pre with
  | nil=>
   simp only [St.vX,Option.some.injEq] at e
   subst e
   exact ⟨[],⟨rfl,rfl,fun i x v lk hx=>by simp at hx⟩,rfl,rfl⟩
  | cons _ _=>simp [St.vX] at e
 | (t,x)::xs,vs,f,j,pre,p,hs,hfix,e,hT,hi,hb=>by
  cases hs with
  | @cons _ _ v vs h1 h2=>
   cases pre with
   | nil=>simp [St.vX] at e
   | cons oa pre=>
    simp only [St.vX] at e
    obtain ⟨p1,e1,e⟩:=Option.bind_eq_some_iff.1 e
    obtain ⟨p2,e2,e⟩:=Option.map_eq_some_iff.1 e
    subst e
    simp only at hT hi hb
    obtain ⟨lk,k1,k2⟩:=ajq (j:=j) h h1 (fun y hy=>by
     have:=hfix 0 y v (by simp [hy]) rfl
     simpa using this) e1 (Nat.le_trans (Nat.le_max_left _ _) hT) (Nat.le_trans (Nat.le_max_left _ _) hi) (fun o ho=>hb o (List.mem_append_left _ ho))
    obtain ⟨lks,l1,l2,l3⟩:=Ug h xs vs (j:=j+1) h2 (fun i y v hy hv=>by
     have:=hfix (i+1) y v (by simpa using hy) (by simpa using hv)
     rwa [show j+(i+1)=j+1+i by omega] at this) e2 (Nat.le_trans (Nat.le_max_right _ _) hT) (Nat.le_trans (Nat.le_max_right _ _) hi) (fun o ho=>hb o (List.mem_append_right _ ho))
    refine ⟨lk::lks,⟨by simp [l1.len],by simp [l1.Qg],fun i x v lk' hx hv hlk=>?_⟩,?_,by simp [l3]⟩
    ·cases i with
     | zero=>
      simp at hx hv hlk
      subst hx hv hlk
      exact k1
     | succ i=>
      have:=l1.at_ i x v lk' (by simpa using hx) (by simpa using hv) (by simpa using hlk)
      rwa [show j+(i+1)=j+1+i by omega]
    ·rw [List.map_append,k2,l2]
     cases hq:lk.oc? <;>simp [hq]
end
end
end Go.Sim
