/- What goes into a call. Conditions: none. -/
import Derived.Test.YtambonpepalofaaSimP
namespace Go.Sim
open Classical
set_option linter.unusedSimpArgs false
set_option linter.unusedVariables false
noncomputable section
def Owned (W:Wit) (o b:Nat):Prop:=W.own b=some (.root o)∨∃c,W.own b=some (.cell o c)
def ACells (w:World) (Fp:Nat→Prop) (ag:Bool) (as:List AV) (v:Value):Prop:=
 (ag=true∧∃us,v= .agg us∧CRi w Fp as us.toList)∨(ag=false∧∃y,as=[y]∧CRi w Fp [y] [v])
section
variable {P:Program} {cfg:Cfg} {callF:FuncId→List Arg→Option (Res×List Out)} {B:Base} {st st':St} {a:Act} {w:World} {W:Wit} {o:Oper} {nt f:Nat} {ops:Array Oper}
theorem ACells.mono {w':World} {Fp Fp':Nat→Prop} {ag:Bool} {as:List AV} {v:Value} (h:ACells w Fp ag as v) (hm:∀b,Fp b→Fp' b∧w'.heap[b]?=w.heap[b]?):ACells w' Fp' ag as v:=by
 rcases h with ⟨h1,us,h2,h3⟩ | ⟨h1,y,h2,h3⟩
 ·exact .inl ⟨h1,us,h2,h3.mono hm⟩
 ·exact .inr ⟨h1,y,h2,h3.mono hm⟩
theorem refs_owned {r:RV} {b:Nat} (h:Refs W r b):∃o,(match r with | .own o _ _ | .sub o _ _ _ _ | .mp o _ _ | .mpe o _ _ _ _=>some o | _=>none)=some o∧Owned W o b:=by
 cases r<;>first | exact ⟨_,rfl,h⟩ | exact h.elim
theorem borrows_ok (h:Rel B st a w W):∀(rs:List RV) (vs:List Value) {ks:List (Option Nat)} {bs:List Nat} {t:Nat} {as:List AV},RRs w W st.L rs vs→borrowsOf st ks rs=some (bs,t,as)→
 CRi w (fun b=>W.F (tg t) b∨∃o∈bs,Owned W o b) as vs
 | [],vs,ks,bs,t,as,hr,e=>by
  cases hr
  simp only [borrowsOf,Option.some.injEq,Prod.mk.injEq] at e
  obtain ⟨rfl,rfl,rfl⟩:=e
  exact .nil
 | r::rs,vs,ks,bs,t,as,hr,e=>by
  cases hr with
  | @cons _ _ v vs h1 h2=>
   simp only [borrowsOf] at e
   obtain ⟨⟨bo,t1,y⟩,e1,e⟩:=Option.bind_eq_some_iff.1 e
   obtain ⟨⟨bs2,t2,as2⟩,e2,e⟩:=Option.map_eq_some_iff.1 e
   simp only [Prod.mk.injEq] at e
   obtain ⟨q1,q2,q3⟩:=e
   have hv:=view_ok h h1 e1
   have ih:=borrows_ok h rs vs h2 e2
   subst q2 q3
   refine CRi.cons (hv.mono fun b hb=>⟨?_,rfl⟩) (ih.mono fun b hb=>⟨?_,rfl⟩)
   ·rcases hb with hb | ⟨hbo,hb⟩
    ·exact .inl (h.fle (Nat.le_max_left _ _) hb)
    ·obtain ⟨o,ho,hb⟩:=refs_owned hb
     refine .inr ⟨o,?_,hb⟩
     subst hbo q1
     cases r<;>first | (cases ho;simp) | cases ho
   ·rcases hb with hb | ⟨o,ho,hb⟩
    ·exact .inl (h.fle (Nat.le_max_right _ _) hb)
    ·refine .inr ⟨o,?_,hb⟩
     subst q1
     split<;>first | exact List.mem_cons_of_mem _ ho | exact ho
def QuietD (B:Base) (st:St) (a:Act) (w:World) (W:Wit) (st':St) (W':Wit):Prop:=
 Quiet B st a w W st' W'∧∀b k,W.own b=some (.det k)→W'.own b=some (.det k)
theorem QuietD.refl (h:Rel B st a w W):QuietD B st a w W st W:=⟨⟨h,rfl,Ext.refl _ _,fun _ _ hb=>hb⟩,fun _ _ hb=>hb⟩
theorem QuietD.trans {st1 st2:St} {W1 W2:Wit} (h:QuietD B st a w W st1 W1) (h':QuietD B st1 a w W1 st2 W2):QuietD B st a w W st2 W2:=
 ⟨h.1.trans h'.1,fun b k hb=>h'.2 b k (h.2 b k hb)⟩
theorem QuietD.sr {W':Wit} (h:QuietD B st a w W st' W') {x:SV} {v:Value} (hs:SR w W st.L x v):SR w W' st'.L x v:=
 hs.ext (fun t b hb=>⟨h.1.2.2.2 _ _ hb,rfl⟩) h.1.2.2.1
theorem setObj_self {o:Nat} {ob:Obj} (hL:st.L o=some ob):st.setObj o ob=st:=by
 have:upd st.L o (some ob)=st.L:=by
  funext i
  by_cases e:i=o
  ·subst e;rw [upd_same,hL]
  ·rw [upd_ne _ _ e]
 simp only [St.setObj,this]
theorem freezeAt_ok:∀(l:List Nat) {st:St} {W:Wit} {o:Nat} {ob:Obj},Rel B st a w W→st.L o=some ob→∃W',QuietD B st a w W (st.setObj o (ob.freezeAt l)) W'
 | [],st,W,o,ob,h,hL=>by
  simp only [Obj.freezeAt]
  rw [setObj_self hL]
  exact ⟨W,QuietD.refl h⟩
 | c::l,st,W,o,ob,h,hL=>by
  simp only [Obj.freezeAt]
  have keep:∃W',QuietD B st a w W (st.setObj o (ob.freezeAt l)) W':=freezeAt_ok l h hL
  cases hc:ob.cs[c]? with
  | none=>exact keep
  | some x=>
   obtain ⟨m,s,t,y⟩:=x
   cases m with
   | sh=>
    have hcell:st.cell o s c=some (ob,⟨.sh,s,t,y⟩):=by simp [St.cell,hL,hc]
    obtain ⟨v,hv,_⟩:=h.cellAt hcell
    obtain ⟨W1,k1,k2,k3,k4,_⟩:=freeze_cell h hcell (.inl rfl) hv
    obtain ⟨W2,l1⟩:=freezeAt_ok l (o:=o) (ob:=ob.setMode c .imm) k1 (by simp [St.setObj,upd_same])
    have e:(st.setObj o (ob.setMode c .imm)).setObj o ((ob.setMode c .imm).freezeAt l)=st.setObj o ((ob.setMode c .imm).freezeAt l):=by
     have:upd (upd st.L o (some (ob.setMode c .imm))) o (some ((ob.setMode c .imm).freezeAt l))=upd st.L o (some ((ob.setMode c .imm).freezeAt l)):=by
      funext i
      by_cases e:i=o
      ·subst e;rw [upd_same,upd_same]
      ·rw [upd_ne _ _ e,upd_ne _ _ e,upd_ne _ _ e]
     simp only [St.setObj,this]
    rw [e] at l1
    exact ⟨W2,QuietD.trans ⟨⟨k1,rfl,k2,k3⟩,k4⟩ l1⟩
   | _=>exact keep
def ArgFix (w:World) (W:Wit) (j:Nat):Arg→Value→Prop
 | .im 0 ag as,v=>ACells w (W.F 0) ag as v
 | .mv sz es,v=>DetOK w W j ⟨.sh,0,.row sz es⟩ v
 | _,_=>False
theorem ArgFix.quiet {W':Wit} {j:Nat} {x:Arg} {v:Value} (hq:QuietD B st a w W st' W') (h:ArgFix w W j x v):ArgFix w W' j x v:=by
 cases x with
 | im t ag as=>
  cases t with
  | zero=>exact ACells.mono h fun b hb=>⟨hq.1.2.2.2 _ _ hb,rfl⟩
  | succ t=>exact h.elim
 | mv sz es=>exact DetOK.step (show DetOK w W j ⟨.sh,0,.row sz es⟩ v from h) (fun t b hb=>⟨hq.1.2.2.2 _ _ hb,rfl⟩) fun b hb=>⟨hq.2 _ _ hb,rfl⟩
 | _=>exact h.elim
theorem ACells.of {Fp:Nat→Prop} {L:Nat→Option Obj} {ag:Bool} {cs:List RV} {as:List AV} {v:Value} (hs:SR w W L (.v ag cs) v) (h:∀vs,RRs w W L cs vs→CRi w Fp as vs):ACells w Fp ag as v:=by
 rcases hs with ⟨h1,vs,rfl,h2⟩ | ⟨h1,r,h2,h3⟩
 ·exact .inl ⟨h1,vs,rfl,h _ h2⟩
 ·simp only at h2
  subst h2
  have hc:=h [v] (.cons h3 .nil)
  obtain ⟨y,hy⟩:∃y,as=[y]:=List.length_eq_one_iff.1 (by rw [hc.length];rfl)
  subst hy
  exact .inr ⟨h1,y,rfl,hc⟩
theorem prep_ok (h:Rel B st a w W) {m:PM} {ks:List (Option Nat)} {x:SV} {v:Value} {oa:Option Arg} (hs:SR w W st.L x v) (e:st.prep m ks x=some (oa,st')) (j:Nat):
 ∃W',QuietD B st a w W st' W'∧∀y,oa=some y→ArgFix w W' j y v:=by
 have stay:some ((none:Option Arg),st)=some (oa,st')→∃W',QuietD B st a w W st' W'∧∀y,oa=some y→ArgFix w W' j y v:=by
  intro e
  cases e
  exact ⟨W,QuietD.refl h,fun y hy=>by cases hy⟩
 unfold St.prep at e
 split at e
 ·rename_i ag cs
  obtain ⟨⟨t,as,st1⟩,h1,e⟩:=Option.bind_eq_some_iff.1 e
  split at e
  ·rename_i ht
   have ht:=beq_eq ht
   cases e
   rcases hs with ⟨p1,vs,rfl,p2⟩ | ⟨p1,r,p2,p3⟩
   ·obtain ⟨W1,k1,k2,k3,k4,k5,k6⟩:=fixAll_ok cs vs.toList h p2 h1
    refine ⟨W1,⟨⟨k1,k2,k3,k4⟩,k5⟩,fun y hy=>?_⟩
    cases hy
    exact .inl ⟨p1,vs,rfl,k6.mono fun b hb=>⟨by subst ht;exact hb,rfl⟩⟩
   ·simp only at p2
    subst p2
    obtain ⟨W1,k1,k2,k3,k4,k5,k6⟩:=fixAll_ok [r] [v] h (.cons p3 .nil) h1
    refine ⟨W1,⟨⟨k1,k2,k3,k4⟩,k5⟩,fun y hy=>?_⟩
    cases hy
    obtain ⟨z,hz⟩:∃z,as=[z]:=List.length_eq_one_iff.1 (by rw [k6.length];rfl)
    subst hz
    exact .inr ⟨p1,z,rfl,k6.mono fun b hb=>⟨by subst ht;exact hb,rfl⟩⟩
  ·cases e
 ·rename_i r
  obtain ⟨⟨⟨m,t,y⟩,st1⟩,h1,e⟩:=Option.bind_eq_some_iff.1 e
  split at e
  ·cases e
  ·rename_i ht
   have ht:t=0:=by
    have:t.beq 0=true:=by simpa using ht
    exact beq_eq this
   subst ht
   obtain ⟨W1,k1,k2,k3,k4,k5,k6⟩:=take_ok h (v_false hs) h1 j
   cases m with
   | sh=>
    cases y with
    | row sz es=>
     cases e
     exact ⟨W1,⟨⟨k1,k2,k3,k4⟩,k5⟩,fun y hy=>by cases hy;exact k6⟩
    | _=>cases e
   | _=>cases e
 ·rename_i ms o s
  obtain ⟨ob,h1,e⟩:=Option.bind_eq_some_iff.1 e
  split at e
  ·cases e
   obtain ⟨W1,k1⟩:=freezeAt_ok (immAt 0 ms) h (obj_inv h1).1
   exact ⟨W1,k1,fun y hy=>by cases hy⟩
  ·cases e
 ·exact stay e
inductive SRs (w:World) (W:Wit) (L:Nat→Option Obj):List (TypeId×SV)→List Value→Prop
 | nil:SRs w W L [] []
 | cons {x xs v vs}:SR w W L x.2 v→SRs w W L xs vs→SRs w W L (x::xs) (v::vs)
theorem SRs.quiet {W':Wit} (hq:QuietD B st a w W st' W') {xs:List (TypeId×SV)} {vs:List Value} (h:SRs w W st.L xs vs):SRs w W' st'.L xs vs:=by
 induction h with
 | nil=>exact .nil
 | cons h1 _ ih=>exact .cons (hq.sr h1) ih
theorem prepAll_ok:∀(xs:List (TypeId×SV)) (vs:List Value) {st st':St} {W:Wit} {f j:Nat} {pre:List (Option Arg)},Rel B st a w W→SRs w W st.L xs vs→st.prepAll P cfg f j xs=some (pre,st')→
 ∃W',QuietD B st a w W st' W'∧∀(i:Nat) y v,pre[i]?=some (some y)→vs[i]?=some v→ArgFix w W' (j+i) y v
 | [],vs,st,st',W,f,j,pre,h,hs,e=>by
  cases e
  exact ⟨W,QuietD.refl h,fun i y v hp=>by simp at hp⟩
 | (t,x)::xs,vs,st,st',W,f,j,pre,h,hs,e=>by
  cases hs with
  | @cons _ _ v vs h1 h2=>
   simp only [St.prepAll] at e
   obtain ⟨⟨oa,st1⟩,e1,e⟩:=Option.bind_eq_some_iff.1 e
   obtain ⟨⟨pre2,st2⟩,e2,e⟩:=Option.map_eq_some_iff.1 e
   cases e
   obtain ⟨W1,k1,k2⟩:=prep_ok h h1 e1 j
   obtain ⟨W2,l1,l2⟩:=prepAll_ok xs vs k1.1.1 (h2.quiet k1) e2
   refine ⟨W2,k1.trans l1,fun i y v hp hv=>?_⟩
   cases i with
   | zero=>
    simp only [List.getElem?_cons_zero,Option.some.injEq] at hp hv
    subst hv
    exact (k2 y hp).quiet l1
   | succ i=>
    have:=l2 i y v (by simpa using hp) (by simpa using hv)
    rwa [show j+(i+1)=j+1+i by omega]
end
end
end Go.Sim
