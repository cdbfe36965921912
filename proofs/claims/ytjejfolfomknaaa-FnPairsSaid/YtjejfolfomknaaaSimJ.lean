/- Each operation but a call: what the deterministic machine does is what the model's machine does. Conditions: none. -/
import Derived.Test.YtjejfolfomknaaaSimI
namespace Go.Sim
variable [Lim]
open Classical
set_option linter.unusedSimpArgs false
set_option linter.unusedVariables false
noncomputable section
section
variable {P:Program} {cfg:Cfg} {aH:FuncId→List Arg→Option (Res×List Out)} {B:Base} {st st':St} {a:Act} {w:World} {W:Wit} {o:Oper} {nt:Nat}
theorem Ah {sv:SV} {r:RV} {v:Value} {L:Nat→Option Obj} (h:sv.one? =some r) (hs:SR w W L sv v):RR w W L r v:=by
 unfold SV.one? at h
 split at h
 ·cases h
  rcases hs with ⟨h1,_⟩ | ⟨_,r',h2,h3⟩
  ·cases h1
  ·cases h2;exact h3
 ·cases h
theorem bQ {r:RV} {v:Value} {L:Nat→Option Obj} (hs:SR w W L (.v false [r]) v):RR w W L r v:=Ah rfl hs
theorem l9 {t:Nat} {u v:Value} {L:Nat→Option Obj} (h:RR w W L (.im t (.sc u)) v):v=u∧plain u=true:=by
 cases h with
 | sc hp _=>exact ⟨rfl,hp⟩
theorem DK {sv:SV} {k:IntKind} {n:Int} {v:Value} {L:Nat→Option Obj} (h:sv.int? =some (k,n)) (hs:SR w W L sv v):v= .int k n:=by
 unfold SV.int? at h
 split at h
 ·cases h;exact (l9 (bQ hs)).1
 ·cases h
theorem Ai {sv:SV} {b:Bool} {v:Value} {L:Nat→Option Obj} (h:sv.bool? =some b) (hs:SR w W L sv v):v= .bool b:=by
 unfold SV.bool? at h
 split at h
 ·cases h;exact (l9 (bQ hs)).1
 ·cases h
theorem vO {r:RV} {v:Value} {L:Nat→Option Obj} (h:RR w W L r v):SR w W L (.v false [r]) v:= .inr ⟨rfl,_,rfl,h⟩
theorem zS {L:Nat→Option Obj} {v:Value} (h:plain v=true):SR w W L (.im 0 (.sc v)) v:= .inr ⟨rfl,_,rfl,.sc h .nil⟩
def Qy (nt:Nat) (dst:Option Tmp) (st:St) (v:SV):Option St:=
 match dst with | none=>some st | some d=>if Nat.blt d nt then some (st.aV d v) else none
theorem Rel.Qy (h:Rel B st a w W) (hn:nt=B.nt) {dst:Option Tmp} {v:SV} {u:Value} (hs:SR w W st.L v u) (e:Qy nt dst st v=some st'):Rel B st' (a.put dst u) w W:=by
 unfold Sim.Qy at e
 cases dst with
 | none=>cases e;exact h
 | some d=>
  simp only at e
  split at e
  ·rename_i hd
   cases e
   exact h.put (hn ▸ su hd) hs
  ·cases e
theorem dW (h:Rel B st a w W) (hn:nt=B.nt) {v:SV} {u:Value} (hr:(execOp a.eval o).run P w= .ok (.value u) w) (hs:SR w W st.L v u) (e:Qy nt o.dst st v=some st'):Good P B o st' a w:=
 Good.value hr (h.Qy hn hs e)
theorem UI (h:Rel B st a w W) (hn:nt=B.nt) {x:Operand} (ho:o.op= .move x) (e:aF P cfg aH nt o st=some st'):Good P B o st' a w:=by
 simp only [aF,ho] at e
 exact dW h hn (u:=a.eval x) (by simp [execOp,ho]) (h.get x) e
theorem UJ (h:Rel B st a w W) (hn:nt=B.nt) {c x y:Operand} (ho:o.op= .pick c x y) (e:aF P cfg aH nt o st=some st'):Good P B o st' a w:=by
 simp only [aF,ho] at e
 obtain ⟨t,ht,e⟩:=Option.bind_eq_some_iff.1 e
 have hc:=Ai ht (h.get c)
 refine dW h hn (u:=if t then a.eval x else a.eval y) (by simp [execOp,ho,hc,asBool]) ?_ e
 cases t
 ·exact h.get y
 ·exact h.get x
theorem UK (h:Rel B st a w W) (hn:nt=B.nt) {t:TypeId} {x:Operand} (ho:o.op= .load t x) (e:aF P cfg aH nt o st=some st'):Good P B o st' a w:=by
 simp only [aF,ho] at e
 obtain ⟨ks,hks,e⟩:=Option.bind_eq_some_iff.1 e
 obtain ⟨r,hr,e⟩:=Option.bind_eq_some_iff.1 e
 obtain ⟨sv,hl,e⟩:=Option.bind_eq_some_iff.1 e
 obtain ⟨d,hd⟩:=Af hks
 obtain ⟨b,off,arr,T,fr,us,rest,hv,hh,hdr,hlen,hs⟩:=O1 h (Ah hr (h.get x)) hl
 refine dW h hn (u:=valOf (dI P t) us) ?_ hs e
 have:=FK (w:=w) hd hh hdr hlen
 simp [execOp,ho,Instr.loadAt,hv,Instr.sureAddr,this]
theorem Gj (h:Rel B st a w W) {r:RV} {v:Value} {b:Bool} (e:st.pJ r=some b) (hr:RR w W st.L r v):∃p,v= .pointer p∧p.isNone=b∧∀x,p=some x→x.spot=none:=by
 cases r with
 | mp o s off=>
  simp only [St.pJ] at e
  obtain ⟨ob,ho,e⟩:=Option.map_eq_some_iff.1 e
  subst e
  obtain ⟨hL,hg⟩:=qM ho
  obtain ⟨ob2,hL2,_,hx⟩:=hr
  rw [hL] at hL2;cases hL2
  exact ⟨_,(hx hg).2,rfl,fun x hx=>by cases hx;rfl⟩
 | mpe o s c i off=>
  simp only [St.pJ] at e
  obtain ⟨⟨ob,m,s',t',z⟩,hc,e⟩:=Option.bind_eq_some_iff.1 e
  obtain ⟨hL,hx,hs⟩:=bZ hc
  simp only at hs hL hx
  obtain ⟨ob2,hL2,_,hval⟩:=hr
  rw [hL] at hL2;cases hL2
  cases m with
  | gone=>simp at e
  | _=>
   cases z with
   | row zz es=>
    simp at e;subst e
    obtain ⟨_,b,fC,cap,_,hv⟩:=hval _ hx hs (by intro e;cases e) zz es rfl
    exact ⟨_,hv,rfl,fun x hx=>by cases hx;rfl⟩
   | _=>simp at e
 | im t y=>
  cases y with
  | cp cs off=>
   simp [St.pJ] at e;subst e
   cases hr with
   | cp _ _ _ _ _=>exact ⟨_,rfl,rfl,fun x hx=>by cases hx;rfl⟩
  | sc u=>
   cases u with
   | pointer p=>
    cases p with
    | none=>
     simp [St.pJ] at e;subst e
     exact ⟨none,(l9 hr).1,rfl,fun x hx=>by cases hx⟩
    | some p=>simp [St.pJ] at e
   | _=>simp [St.pJ] at e
  | _=>simp [St.pJ] at e
 | ws y=>
  cases y with
  | cp cs off=>
   simp [St.pJ] at e;subst e
   have hr:CRs w (fun b=>W.own b=some (.tr true)) [.cp cs off] [v]:=hr
   cases hr with
   | cp _ _ _ _ _=>exact ⟨_,rfl,rfl,fun x hx=>by cases hx;rfl⟩
  | _=>simp [St.pJ] at e
 | _=>simp [St.pJ] at e
theorem Lr (h:Rel B st a w W) {r r':RV} {v:Value} {n:Nat} (e:st.shift n r=some r') (hr:RR w W st.L r v):∃b off,v= .pointer (some ⟨b,off,none⟩)∧RR w W st.L r' (.pointer (some ⟨b,off+n,none⟩)):=by
 unfold St.shift at e
 obtain ⟨bo,hp,e⟩:=Option.bind_eq_some_iff.1 e
 cases r with
 | mp o s off=>
  simp only [RV.shift,Option.some.injEq] at e;subst e
  simp only [St.pJ] at hp
  obtain ⟨ob,ho,_⟩:=Option.map_eq_some_iff.1 hp
  obtain ⟨hL,hg⟩:=qM ho
  obtain ⟨ob2,hL2,hs,hx⟩:=hr
  rw [hL] at hL2;cases hL2
  obtain ⟨h1,h2⟩:=hx hg
  exact ⟨_,_,h2,ob,hL,hs,fun _=>⟨h1,rfl⟩⟩
 | mpe o s c i off=>
  simp only [RV.shift,Option.some.injEq] at e;subst e
  simp only [St.pJ] at hp
  obtain ⟨⟨ob,m,s',t',z⟩,hc,hp⟩:=Option.bind_eq_some_iff.1 hp
  obtain ⟨hL,hx,hs⟩:=bZ hc
  simp only at hs hL hx
  obtain ⟨ob2,hL2,hs2,hval⟩:=hr
  rw [hL] at hL2;cases hL2
  cases m with
  | gone=>simp at hp
  | _=>
   cases z with
   | row zz es=>
    obtain ⟨h1,b,fC,cap,h2,hv⟩:=hval _ hx hs (by intro e;cases e) zz es rfl
    refine ⟨_,_,hv,ob,hL,hs2,fun y hy hys hm sz' es' he'=>?_⟩
    rw [hx] at hy;cases hy;cases he'
    exact ⟨h1,b,fC,cap,h2,by simp only [Nat.add_assoc]⟩
   | _=>simp at hp
 | im t y=>
  cases y with
  | cp cs off=>
   simp only [RV.shift,Option.some.injEq] at e;subst e
   cases hr with
   | @cp _ _ _ _ b fC arr T fr us rest hb hh hd hc _=>
    refine ⟨b,fC+off,rfl,?_⟩
    have:=CRi.cp (off:=off+n) (fC:=fC) hb hh hd hc (.nil (w:=w) (Fp:=W.F (tg (aY t (.cp cs off)))))
    rw [←Nat.add_assoc] at this
    exact this
  | _=>simp [RV.shift] at e
 | ws y=>
  cases y with
  | cp cs off=>
   simp only [RV.shift,Option.some.injEq] at e;subst e
   have hr:CRs w (fun b=>W.own b=some (.tr true)) [.cp cs off] [v]:=hr
   cases hr with
   | @cp _ _ _ _ b fC arr T fr us rest hb hh hd hc _=>
    refine ⟨b,fC+off,rfl,?_⟩
    have:=CRs.cp (off:=off+n) (fC:=fC) hb hh hd hc (.nil (w:=w) (Fp:=fun b=>W.own b=some (.tr true)))
    rw [←Nat.add_assoc] at this
    exact this
  | _=>simp [RV.shift] at e
 | _=>simp [RV.shift] at e
theorem Ls (h:Rel B st a w W) (hn:nt=B.nt) {x:Operand} (ho:o.op= .nilCheck x) (e:aF P cfg aH nt o st=some st'):Good P B o st' a w:=by
 simp only [aF,ho] at e
 have hx:=h.get x
 split at e
 ·rename_i r hr
  rw [hr] at hx
  split at e
  ·rename_i hp
   obtain ⟨p,hv,hpn,_⟩:=Gj h hp (bQ hx)
   cases p with
   | none=>simp at hpn
   | some p=>
    refine dW h hn (u:=a.eval x) ?_ (by rw [hv] at hx ⊢;exact hx) e
    simp [execOp,ho,hv]
  ·cases e
 ·rename_i f cs hr
  rw [hr] at hx
  obtain ⟨vs,hv,hvs⟩:=hx
  refine dW h hn (u:=a.eval x) ?_ (by rw [hv];exact ⟨vs,rfl,hvs⟩) e
  simp [execOp,ho,hv]
 ·cases e
theorem JU (h:Rel B st a w W) (hn:nt=B.nt) {s:TypeId} {x:Operand} {f:Nat} (ho:o.op= .fieldAddr s x f) (e:aF P cfg aH nt o st=some st'):Good P B o st' a w:=by
 simp only [aF,ho] at e
 split at e
 ·rename_i fs hs
  obtain ⟨fd,hfd,e⟩:=Option.bind_eq_some_iff.1 e
  split at e
  ·cases e
  ·rename_i hz
   obtain ⟨r',hr',e⟩:=Option.bind_eq_some_iff.1 e
   obtain ⟨r,hr,hr'⟩:=Option.bind_eq_some_iff.1 hr'
   obtain ⟨b,off,hv,hrr⟩:=Lr h hr' (Ah hr (h.get x))
   refine dW h hn (u:= .pointer (some ⟨b,off+fd.offset,none⟩)) ?_ (vO hrr) e
   cases hi:P.info? fd.type with
   | none=>simp [Program.cellsOf,hi] at hz
   | some inf=>
    have hne:¬inf.size=0:=by
     intro h0
     rw [uX hi,h0] at hz
     exact hz rfl
    simp [execOp,ho,Instr.fieldAt,aT hs,hfd,hv,Instr.sureAddr,fieldPlace,kL hi,hne,jm]
 ·cases e
theorem CRi.slice {Fp:Nat→Prop} {sz:Nat} {es:List AV} {v:Value} (h:CRi w Fp [.row sz es] [v]):∃a0 cap,v= .slice a0 es.length cap∧(a0=none→es.length=0∧cap=0)∧(∀x,a0=some x→x.spot=none∨cap=0)∧es.length≤cap:=by
 cases h with
 | dO _=>exact ⟨_,0,rfl,fun _=>⟨rfl,rfl⟩,(fun x hx=> .inr rfl),Nat.le_refl _⟩
 | row _ _ _ _ hl _ _=>exact ⟨_,_,rfl,(fun h=>by cases h),(fun x hx=>by cases hx;exact .inl rfl),hl.1⟩
omit [Lim] in
theorem CRs.slice {Fp:Nat→Prop} {sz:Nat} {es:List AV} {v:Value} (h:CRs w Fp [.row sz es] [v]):∃a0 cap,v= .slice a0 es.length cap∧(a0=none→es.length=0∧cap=0)∧(∀x,a0=some x→x.spot=none∨cap=0)∧es.length≤cap:=by
 cases h with
 | dO _=>exact ⟨_,0,rfl,fun _=>⟨rfl,rfl⟩,(fun x hx=> .inr rfl),Nat.le_refl _⟩
 | row _ _ _ _ hl _ _=>exact ⟨_,_,rfl,(fun h=>by cases h),(fun x hx=>by cases hx;exact .inl rfl),hl⟩
theorem jl.slice {Fp:Nat→Prop} {sz:Nat} {es:List AV} {v:Value} {ob:Option Nat} (h:jl w Fp sz es v ob):∃a0 cap,v= .slice a0 es.length cap∧(a0=none→es.length=0∧cap=0)∧(∀x,a0=some x→x.spot=none∨cap=0)∧es.length≤cap:=by
 rcases h with ⟨rfl,⟨x,rfl⟩,_⟩ | ⟨b,off,cap,arr,T,fr,us,rest,rfl,_,_,_,_,_,_,hl,_⟩
 ·exact ⟨x,0,rfl,fun _=>⟨rfl,rfl⟩,(fun x hx=> .inr rfl),Nat.le_refl _⟩
 ·exact ⟨_,_,rfl,(fun h=>by cases h),(fun x hx=>by cases hx;exact .inl rfl),hl⟩
theorem Deep.slice {Fp:Nat→Prop} {k:Option Nat} {sz:Nat} {es:List AV} {v:Value} {us:List Value} {bs:List Nat} (h:Deep w Fp k sz es v us bs):∃a0 cap,v= .slice a0 es.length cap∧(a0=none→es.length=0∧cap=0)∧(∀x,a0=some x→x.spot=none∨cap=0)∧es.length≤cap:=by
 rcases h with ⟨rfl,⟨x,rfl⟩,_⟩ | ⟨b,off,cap,arr,T,fr,rest,ibs,rfl,_,_,_,_,_,_,hl,_⟩
 ·exact ⟨x,0,rfl,fun _=>⟨rfl,rfl⟩,(fun x hx=> .inr rfl),Nat.le_refl _⟩
 ·exact ⟨_,_,rfl,(fun h=>by cases h),(fun x hx=>by cases hx;exact .inl rfl),hl⟩
theorem Ae.slice {o c:Nat} {m:OM} {s t sz:Nat} {es:List AV} {v:Value} (h:Ae w W o c ⟨m,s,t,.row sz es⟩ v) (hm:m≠ .gone):
 ∃a0 cap,v= .slice a0 es.length cap∧(a0=none→es.length=0∧cap=0)∧(∀x,a0=some x→x.spot=none∨cap=0)∧es.length≤cap:=by
 cases m with
 | imm=>exact CRi.slice h
 | sh=>exact h.1.slice
 | gone=>exact absurd rfl hm
 | dp n=>obtain ⟨bs,h,_⟩:=h;exact h.slice
 | dd n i j=>obtain ⟨bs,h,_⟩:=h;exact h.slice
 | ws=>exact CRs.slice h
 | fr=>exact CRi.slice h
theorem EG (h:Rel B st a w W) {r:RV} {v:Value} {n:Nat} (e:st.len r=some n) (hr:RR w W st.L r v):∃a0 cap,v= .slice a0 n cap∧(a0=none→n=0∧cap=0)∧(∀x,a0=some x→x.spot=none∨cap=0)∧n≤cap:=by
 cases r with
 | im t y=>
  cases y with
  | row z es=>
   simp only [St.len,Option.some.injEq] at e
   subst e
   exact CRi.slice hr
  | _=>simp [St.len] at e
 | ws y=>
  cases y with
  | row z es=>
   simp only [St.len,Option.some.injEq] at e
   subst e
   exact CRs.slice hr
  | _=>simp [St.len] at e
 | nil=>
  simp only [St.len,Option.some.injEq] at e
  subst e
  exact ⟨none,0,hr,fun _=>⟨rfl,rfl⟩,(fun x hx=>by cases hx),Nat.le_refl _⟩
 | own o s c=>
  simp only [St.len] at e
  obtain ⟨⟨ob,m,s',t',z⟩,hc,e⟩:=Option.bind_eq_some_iff.1 e
  obtain ⟨hL,hx,hs⟩:=bZ hc
  simp only at hs hL hx;subst hs
  obtain ⟨u,hu,hok,fD⟩:=h.cellAt hc
  obtain ⟨ob2,hL2,_,hval⟩:=hr
  rw [hL] at hL2;cases hL2
  have:=hval _ hx rfl
  rw [hu] at this;cases this
  cases m with
  | gone=>simp at e
  | _=>
   cases z with
   | row zz es=>
    simp at e;subst e
    exact hok.slice (by intro e;cases e)
   | _=>simp at e
 | sub o s c lo hi=>
  simp only [St.len] at e
  obtain ⟨⟨ob,m,s',t',z⟩,hc,e⟩:=Option.bind_eq_some_iff.1 e
  obtain ⟨hL,hx,hs⟩:=bZ hc
  simp only at hs hL hx;subst hs
  obtain ⟨ob2,hL2,_,hval⟩:=hr
  rw [hL] at hL2;cases hL2
  cases m with
  | gone=>simp at e
  | _=>
   cases z with
   | row zz es=>
    simp at e;subst e
    obtain ⟨h1,h2,a0,cap,h3,h4⟩:=hval _ hx rfl (by intro e;cases e) _ _ rfl
    rcases h4 with ⟨rfl,rfl⟩ | ⟨b,off,rfl,hcap,rfl⟩
    ·obtain ⟨u,hu,hok,_⟩:=h.cellAt hc
     rw [h3] at hu;cases hu
     obtain ⟨a1,cap1,e1,e2,e6,e7⟩:=hok.slice (by intro e;cases e)
     injection e1 with e3 e4 e5
     exact ⟨a0,0,by congr 1;omega,fun _=>⟨by omega,rfl⟩,(fun x hx=> .inr rfl),by omega⟩
    ·exact ⟨_,_,rfl,(fun h=>by cases h),(fun x hx=>by cases hx;exact .inl rfl),by omega⟩
   | _=>simp at e
 | _=>simp [St.len] at e
theorem UL (h:Rel B st a w W) {sz i:Nat} {r r':RV} {v:Value} (e:st.iZ sz r i=some r') (hr:RR w W st.L r v):
 ∃b off n cap,v= .slice (some ⟨b,off,none⟩) n cap∧i<n∧RR w W st.L r' (.pointer (some ⟨b,off+i*sz,none⟩)):=by
 cases r with
 | im t y=>
  cases y with
  | row z es=>
   simp only [St.iZ] at e
   split at e
   ·rename_i hz
    have hz:=beq_eq hz
    subst hz
    obtain ⟨ee,hee,rfl⟩:=Option.map_eq_some_iff.1 e
    have hi:i<es.length:=by
     rcases Nat.lt_or_ge i es.length with h' | h'
     ·exact h'
     ·rw [List.getElem?_eq_none h'] at hee;cases hee
    cases hr with
    | dO _=>simp at hi
    | @row _ _ _ _ b off cap arr T fr us rest hb hh hs hd hlc hc _=>
     refine ⟨b,off,es.length,cap,rfl,hi,?_⟩
     have hul:=hc.length
     rw [flat_length hs] at hul
     have e1:es.drop i=ee::es.drop (i+1):=by
      rw [List.drop_eq_getElem_cons hi]
      rw [List.getElem?_eq_getElem hi] at hee
      cases hee;rfl
     have hdc:=hc.drop (i*z)
     rw [oP hs,e1,List.flatMap_cons] at hdc
     obtain ⟨u1,u2,e2,k1,k2⟩:=hdc.nS
     have h4:i*z≤es.length*z:=Nat.mul_le_mul_right _ (by omega)
     have:=CRi.cp (cs:=ee.cells) (off:=0) (fC:=off+i*z) (us:=u1) (rest:=u2++rest) hb hh (by
      rw [←List.drop_drop,hd,List.drop_append,e2]
      have e3:i*z - us.length=0:=by omega
      rw [e3,List.drop_zero,List.append_assoc]) k1 (.nil (w:=w) (Fp:=W.F (tg (aY t (.row z es)))))
     exact this
   ·cases e
  | _=>simp [St.iZ] at e
 | ws y=>
  cases y with
  | row z es=>
   simp only [St.iZ] at e
   split at e
   ·rename_i hz
    have hz:=beq_eq hz
    subst hz
    obtain ⟨ee,hee,rfl⟩:=Option.map_eq_some_iff.1 e
    have hi:i<es.length:=by
     rcases Nat.lt_or_ge i es.length with h' | h'
     ·exact h'
     ·rw [List.getElem?_eq_none h'] at hee;cases hee
    have hr:CRs w (fun b=>W.own b=some (.tr true)) [.row z es] [v]:=hr
    cases hr with
    | dO _=>simp at hi
    | @row _ _ _ _ b off cap arr T fr us rest hb hh hs hd hlc hc _=>
     refine ⟨b,off,es.length,cap,rfl,hi,?_⟩
     have hul:=hc.length
     rw [flat_length hs] at hul
     have e1:es.drop i=ee::es.drop (i+1):=by
      rw [List.drop_eq_getElem_cons hi]
      rw [List.getElem?_eq_getElem hi] at hee
      cases hee;rfl
     have hdc:=hc.drop (i*z)
     rw [oP hs,e1,List.flatMap_cons] at hdc
     obtain ⟨u1,u2,e2,k1,k2⟩:=hdc.nS
     have h4:i*z≤es.length*z:=Nat.mul_le_mul_right _ (by omega)
     have:=CRs.cp (cs:=ee.cells) (off:=0) (fC:=off+i*z) (us:=u1) (rest:=u2++rest) hb hh (by
      rw [←List.drop_drop,hd,List.drop_append,e2]
      have e3:i*z - us.length=0:=by omega
      rw [e3,List.drop_zero,List.append_assoc]) k1 (.nil (w:=w) (Fp:=fun b=>W.own b=some (.tr true)))
     exact this
   ·cases e
  | _=>simp [St.iZ] at e
 | own o s c=>
  simp only [St.iZ] at e
  obtain ⟨⟨ob,m,s',t',y⟩,hc,e⟩:=Option.bind_eq_some_iff.1 e
  obtain ⟨hL,hx,hs⟩:=bZ hc
  simp only at hs hL hx;subst hs
  obtain ⟨u,hu,hok,fD⟩:=h.cellAt hc
  obtain ⟨ob2,hL2,hss,hval⟩:=hr
  rw [hL] at hL2;cases hL2
  have:=hval _ hx rfl
  rw [hu] at this;cases this
  cases m with
  | gone=>simp at e
  | _=>
   cases y with
   | row z es=>
    simp only at e
    split at e
    ·rename_i hz
     simp only [Bool.and_eq_true] at hz
     have hz1:=beq_eq hz.1
     have hi:=su hz.2
     have er:=Option.some.inj e
     subst hz1 er
     obtain ⟨a0,cap,e1,e2,e3,e4⟩:=hok.slice (by intro e;cases e)
     cases a0 with
     | none=>have:=(e2 rfl).1;omega
     | some x=>
      obtain ⟨b,off,sp⟩:=x
      have:sp=none:=by
       rcases e3 _ rfl with h | h
       ·exact h
       ·omega
      subst this
      refine ⟨b,off,es.length,cap,e1,hi,ob,hL,hss,fun y hy hys hm sz' es' he'=>?_⟩
      rw [hx] at hy;cases hy;cases he'
      exact ⟨hi,b,off,cap,by rw [hu,e1],rfl⟩
    ·cases e
   | _=>simp at e
 | sub o s c lo hi=>
  simp only [St.iZ] at e
  obtain ⟨⟨ob,m,s',t',y⟩,hc,e⟩:=Option.bind_eq_some_iff.1 e
  obtain ⟨hL,hx,hs⟩:=bZ hc
  simp only at hs hL hx;subst hs
  obtain ⟨u,hu,hok,fD⟩:=h.cellAt hc
  obtain ⟨ob2,hL2,hss,hval⟩:=hr
  rw [hL] at hL2;cases hL2
  cases m with
  | gone=>simp at e
  | _=>
   cases y with
   | row z es=>
    simp only at e
    split at e
    ·rename_i hz
     simp only [Bool.and_eq_true] at hz
     have hz1:=beq_eq hz.1
     have hi':=su hz.2
     have er:=Option.some.inj e
     subst hz1 er
     obtain ⟨h1,h2,a0,cap,h3,h4⟩:=hval _ hx rfl (by intro e;cases e) _ _ rfl
     rcases h4 with ⟨rfl,rfl⟩ | ⟨b,off,rfl,hcap,rfl⟩
     ·rw [h3] at hu;cases hu
      obtain ⟨a1,cap1,e1,e2,_,e6⟩:=hok.slice (by intro e;cases e)
      injection e1 with e3 e4 e5
      omega
     ·refine ⟨b,_,_,_,rfl,hi',ob,hL,hss,fun y hy hys hm sz' es' he'=>?_⟩
      rw [hx] at hy;cases hy;cases he'
      refine ⟨by omega,b,off,cap,h3,?_⟩
      rw [if_neg (by omega),Nat.add_mul,Nat.add_zero,Nat.add_assoc]
    ·cases e
   | _=>simp at e
 | _=>simp [St.iZ] at e
omit [Lim] in
theorem pY {i:Int} {n:Nat} (h:pg i=some n):0≤i∧i.toNat=n:=by
 unfold pg at h
 split at h
 ·cases h;exact ⟨by assumption,rfl⟩
 ·cases h
theorem JV (h:Rel B st a w W) (hn:nt=B.nt) {t:TypeId} {x i:Operand} (ho:o.op= .indexAddr t x i) (e:aF P cfg aH nt o st=some st'):Good P B o st' a w:=by
 simp only [aF,ho] at e
 obtain ⟨⟨k,n⟩,hi,e⟩:=Option.bind_eq_some_iff.1 e
 obtain ⟨m,hm,e⟩:=Option.bind_eq_some_iff.1 e
 obtain ⟨r,hr,e⟩:=Option.bind_eq_some_iff.1 e
 have hiv:=DK hi (h.get i)
 obtain ⟨h0,hmn⟩:=pY hm
 split at e
 ·rename_i el hu
  obtain ⟨inf,RQ,e⟩:=Option.bind_eq_some_iff.1 e
  obtain ⟨r',hr',e⟩:=Option.bind_eq_some_iff.1 e
  obtain ⟨b,off,len,cap,hv,hlt,hrr⟩:=UL h hr' (Ah hr (h.get x))
  refine dW h hn (u:= .pointer (some ⟨b,off+m*inf.size,none⟩)) ?_ (vO hrr) e
  have hc:0≤n∧n< (len:Int):=⟨h0,by omega⟩
  simp [execOp,ho,Instr.indexAt,hiv,hv,asIntOf,aT hu,hc.1,hc.2,kL RQ,jm,hmn]
 ·rename_i ln el hu
  split at e
  ·rename_i hlt
   have hlt:=su hlt
   obtain ⟨inf,RQ,e⟩:=Option.bind_eq_some_iff.1 e
   obtain ⟨r',hr',e⟩:=Option.bind_eq_some_iff.1 e
   obtain ⟨b,off,hv,hrr⟩:=Lr h hr' (Ah hr (h.get x))
   refine dW h hn (u:= .pointer (some ⟨b,off+m*inf.size,none⟩)) ?_ (vO hrr) e
   have hc:0≤n∧n< (ln:Int):=⟨h0,by omega⟩
   simp [execOp,ho,Instr.indexAt,hiv,hv,asIntOf,aT hu,hc.1,hc.2,kL RQ,jm,hmn,Instr.sureAddr]
  ·cases e
 ·cases e
theorem RS (h:Rel B st a w W) (hn:nt=B.nt) {t:TypeId} {x i:Operand} (ho:o.op= .index t x i) (e:aF P cfg aH nt o st=some st'):Good P B o st' a w:=by
 simp only [aF,ho] at e
 obtain ⟨⟨k,n⟩,hi,e⟩:=Option.bind_eq_some_iff.1 e
 obtain ⟨m,hm,e⟩:=Option.bind_eq_some_iff.1 e
 have hiv:=DK hi (h.get i)
 obtain ⟨h0,hmn⟩:=pY hm
 split at e
 ·rename_i t0 s hu hs
  have hx:=h.get x
  rw [hs] at hx
  have hxv:=(l9 (bQ hx)).1
  obtain ⟨b,hb,e⟩:=Option.bind_eq_some_iff.1 e
  refine dW h hn (u:= .int .u8 b.toNat) ?_ (zS rfl) e
  have hb':s[m]?=some b:=by
   rw [Array.getElem?_toList] at hb
   have hml:m<s.size:=by
    rcases Nat.lt_or_ge m s.size with h' | h'
    ·exact h'
    ·have:s.data[m]?=none:=Array.getElem?_eq_none h'
     rw [this] at hb;cases hb
   rw [getElem?_pos s m hml]
   rw [Array.getElem?_eq_getElem hml] at hb
   exact hb
  simp [execOp,ho,Instr.index,hiv,hxv,asIntOf,aT hu,h0,hmn,hb']
 ·obtain ⟨r,e1,e⟩:=Option.bind_eq_some_iff.1 e
  have hx:=h.get x
  generalize hs:st.get x=sx at e1 hx
  unfold Rx at e1
  split at e1
  ·rename_i cs
   split at e1
   ·rename_i len el hu
    obtain ⟨inf,hi1,e1⟩:=Option.bind_eq_some_iff.1 e1
    split at e1
    ·rename_i hc
     simp only [Bool.and_eq_true,Bool.not_eq_true'] at hc
     obtain ⟨⟨c1,c2⟩,c3⟩:=hc
     have c1:=su c1
     have c3:=beq_eq c3
     obtain ⟨dsc,WY,e1⟩:=Option.bind_eq_some_iff.1 e1
     rcases hx with ⟨_,vs,hv,hrs⟩ | ⟨hx,_⟩
     ·have get:∀{rs:List RV} {us:List Value} {q:Nat},RRs w W st.L rs us→rs[q]?=some r→∃u,us[q]?=some u∧RR w W st.L r u:=by
       intro rs us q hr
       induction hr generalizing q with
       | nil=>intro e;simp at e
       | cons h1 _ ih=>
        intro e
        cases q with
        | zero=>simp at e;subst e;exact ⟨_,rfl,h1⟩
        | succ q=>simpa using ih (q:=q) (by simpa using e)
      obtain ⟨u,hu1,hr⟩:=get hrs e1
      refine dW h hn (v:= .v false [r]) (u:=u) ?_ (Or.inr ⟨rfl,r,rfl,hr⟩:xG w W st.L (false,[r]) u) e
      have hu2:vs[m]?=some u:=by simpa using hu1
      have hagg:(isAgg el).run P w= .ok false w:=by rw [BA WY,c2]
      have hlt:n< (len:Int):=by omega
      simp [execOp,ho,Instr.index,hiv,hv,asIntOf,aT hu,h0,hmn,hlt,kL hi1,c3,part,hagg,hu2]
     ·cases hx
    ·cases e1
   ·cases e1
  ·cases e1
end
end
end Go.Sim
