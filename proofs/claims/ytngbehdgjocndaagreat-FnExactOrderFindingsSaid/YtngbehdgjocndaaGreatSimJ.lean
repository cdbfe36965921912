/- Each operation but a call: what the deterministic machine does is what the model's machine does. Conditions: none. -/
import Derived.Test.YtngbehdgjocndaaGreatSimI
namespace Go.Sim
variable [Lim]
open Classical
set_option linter.unusedSimpArgs false
set_option linter.unusedVariables false
noncomputable section
section
variable {P:Program} {cfg:Cfg} {aY:FuncId→List Arg→Option (Res×List Out)} {B:Base} {st st':St} {a:Act} {w:World} {W:Wit} {o:Oper} {nt:Nat}
theorem GL {sv:SV} {r:RV} {v:Value} {L:Nat→Option Obj} (h:sv.one? =some r) (hs:SR w W L sv v):RR w W L r v:=by
 unfold SV.one? at h
 split at h
 ·cases h
  rcases hs with ⟨h1,_⟩ | ⟨_,r',h2,h3⟩
  ·cases h1
  ·cases h2;exact h3
 ·cases h
theorem eX {r:RV} {v:Value} {L:Nat→Option Obj} (hs:SR w W L (.v false [r]) v):RR w W L r v:=GL rfl hs
theorem qI {t:Nat} {u v:Value} {L:Nat→Option Obj} (h:RR w W L (.im t (.sc u)) v):v=u∧plain u=true:=by
 cases h with
 | sc hp _=>exact ⟨rfl,hp⟩
theorem KL {sv:SV} {k:IntKind} {n:Int} {v:Value} {L:Nat→Option Obj} (h:sv.int? =some (k,n)) (hs:SR w W L sv v):v= .int k n:=by
 unfold SV.int? at h
 split at h
 ·cases h;exact (qI (eX hs)).1
 ·cases h
theorem PS {sv:SV} {b:Bool} {v:Value} {L:Nat→Option Obj} (h:sv.bool? =some b) (hs:SR w W L sv v):v= .bool b:=by
 unfold SV.bool? at h
 split at h
 ·cases h;exact (qI (eX hs)).1
 ·cases h
theorem Cb {r:RV} {v:Value} {L:Nat→Option Obj} (h:RR w W L r v):SR w W L (.v false [r]) v:= .inr ⟨rfl,_,rfl,h⟩
theorem Jr {L:Nat→Option Obj} {v:Value} (h:plain v=true):SR w W L (.im 0 (.sc v)) v:= .inr ⟨rfl,_,rfl,.sc h .nil⟩
def abC (nt:Nat) (dst:Option Tmp) (st:St) (v:SV):Option St:=
 match dst with | none=>some st | some d=>if Nat.blt d nt then some (st.cZ d v) else none
theorem Rel.abC (h:Rel B st a w W) (hn:nt=B.nt) {dst:Option Tmp} {v:SV} {u:Value} (hs:SR w W st.L v u) (e:abC nt dst st v=some st'):Rel B st' (a.put dst u) w W:=by
 unfold Sim.abC at e
 cases dst with
 | none=>cases e;exact h
 | some d=>
  simp only at e
  split at e
  ·rename_i hd
   cases e
   exact h.put (hn ▸ zi hd) hs
  ·cases e
theorem gQ (h:Rel B st a w W) (hn:nt=B.nt) {v:SV} {u:Value} (hr:(execOp a.eval o).run P w= .ok (.value u) w) (hs:SR w W st.L v u) (e:abC nt o.dst st v=some st'):Good P B o st' a w:=
 Good.value hr (h.abC hn hs e)
theorem agb (h:Rel B st a w W) (hn:nt=B.nt) {x:Operand} (ho:o.op= .move x) (e:aH P cfg aY nt o st=some st'):Good P B o st' a w:=by
 simp only [aH,ho] at e
 exact gQ h hn (u:=a.eval x) (by simp [execOp,ho]) (h.get x) e
theorem agc (h:Rel B st a w W) (hn:nt=B.nt) {c x y:Operand} (ho:o.op= .pick c x y) (e:aH P cfg aY nt o st=some st'):Good P B o st' a w:=by
 simp only [aH,ho] at e
 obtain ⟨t,ht,e⟩:=Option.bind_eq_some_iff.1 e
 have hc:=PS ht (h.get c)
 refine gQ h hn (u:=if t then a.eval x else a.eval y) (by simp [execOp,ho,hc,asBool]) ?_ e
 cases t
 ·exact h.get y
 ·exact h.get x
theorem agd (h:Rel B st a w W) (hn:nt=B.nt) {t:TypeId} {x:Operand} (ho:o.op= .load t x) (e:aH P cfg aY nt o st=some st'):Good P B o st' a w:=by
 simp only [aH,ho] at e
 obtain ⟨ks,hks,e⟩:=Option.bind_eq_some_iff.1 e
 obtain ⟨r,hr,e⟩:=Option.bind_eq_some_iff.1 e
 obtain ⟨sv,hl,e⟩:=Option.bind_eq_some_iff.1 e
 obtain ⟨d,hd⟩:=GI hks
 obtain ⟨b,off,arr,T,fr,us,rest,hv,hh,hdr,hlen,hs⟩:=ZM h (GL hr (h.get x)) hl
 refine gQ h hn (u:=valOf (fJ P t) us) ?_ hs e
 have:=Oo (w:=w) hd hh hdr hlen
 simp [execOp,ho,Instr.loadAt,hv,Instr.sureAddr,this]
theorem Po (h:Rel B st a w W) {r:RV} {v:Value} {b:Bool} (e:st.vW r=some b) (hr:RR w W st.L r v):∃p,v= .pointer p∧p.isNone=b∧∀x,p=some x→x.spot=none:=by
 cases r with
 | mp o s off=>
  simp only [St.vW] at e
  obtain ⟨ob,ho,e⟩:=Option.map_eq_some_iff.1 e
  subst e
  obtain ⟨hL,hg⟩:=xW ho
  obtain ⟨ob2,hL2,_,hx⟩:=hr
  rw [hL] at hL2;cases hL2
  exact ⟨_,(hx hg).2,rfl,fun x hx=>by cases hx;rfl⟩
 | mpe o s c i off=>
  simp only [St.vW] at e
  obtain ⟨⟨ob,m,s',t',z⟩,hc,e⟩:=Option.bind_eq_some_iff.1 e
  obtain ⟨hL,hx,hs⟩:=eF hc
  simp only at hs hL hx
  obtain ⟨ob2,hL2,_,hval⟩:=hr
  rw [hL] at hL2;cases hL2
  cases m with
  | gone=>simp at e
  | _=>
   cases z with
   | row zz es=>
    simp at e;subst e
    obtain ⟨_,b,ik,cap,_,hv⟩:=hval _ hx hs (by intro e;cases e) zz es rfl
    exact ⟨_,hv,rfl,fun x hx=>by cases hx;rfl⟩
   | _=>simp at e
 | im t y=>
  cases y with
  | cp cs off=>
   simp [St.vW] at e;subst e
   cases hr with
   | cp _ _ _ _ _=>exact ⟨_,rfl,rfl,fun x hx=>by cases hx;rfl⟩
  | sc u=>
   cases u with
   | pointer p=>
    cases p with
    | none=>
     simp [St.vW] at e;subst e
     exact ⟨none,(qI hr).1,rfl,fun x hx=>by cases hx⟩
    | some p=>simp [St.vW] at e
   | _=>simp [St.vW] at e
  | _=>simp [St.vW] at e
 | ws y=>
  cases y with
  | cp cs off=>
   simp [St.vW] at e;subst e
   have hr:CRs w (fun b=>W.own b=some (.tr true)) [.cp cs off] [v]:=hr
   cases hr with
   | cp _ _ _ _ _=>exact ⟨_,rfl,rfl,fun x hx=>by cases hx;rfl⟩
  | _=>simp [St.vW] at e
 | _=>simp [St.vW] at e
theorem WN (h:Rel B st a w W) {r r':RV} {v:Value} {n:Nat} (e:st.shift n r=some r') (hr:RR w W st.L r v):∃b off,v= .pointer (some ⟨b,off,none⟩)∧RR w W st.L r' (.pointer (some ⟨b,off+n,none⟩)):=by
 unfold St.shift at e
 obtain ⟨bo,hp,e⟩:=Option.bind_eq_some_iff.1 e
 cases r with
 | mp o s off=>
  simp only [RV.shift,Option.some.injEq] at e;subst e
  simp only [St.vW] at hp
  obtain ⟨ob,ho,_⟩:=Option.map_eq_some_iff.1 hp
  obtain ⟨hL,hg⟩:=xW ho
  obtain ⟨ob2,hL2,hs,hx⟩:=hr
  rw [hL] at hL2;cases hL2
  obtain ⟨h1,h2⟩:=hx hg
  exact ⟨_,_,h2,ob,hL,hs,fun _=>⟨h1,rfl⟩⟩
 | mpe o s c i off=>
  simp only [RV.shift,Option.some.injEq] at e;subst e
  simp only [St.vW] at hp
  obtain ⟨⟨ob,m,s',t',z⟩,hc,hp⟩:=Option.bind_eq_some_iff.1 hp
  obtain ⟨hL,hx,hs⟩:=eF hc
  simp only at hs hL hx
  obtain ⟨ob2,hL2,hs2,hval⟩:=hr
  rw [hL] at hL2;cases hL2
  cases m with
  | gone=>simp at hp
  | _=>
   cases z with
   | row zz es=>
    obtain ⟨h1,b,ik,cap,h2,hv⟩:=hval _ hx hs (by intro e;cases e) zz es rfl
    refine ⟨_,_,hv,ob,hL,hs2,fun y hy hys hm sz' es' he'=>?_⟩
    rw [hx] at hy;cases hy;cases he'
    exact ⟨h1,b,ik,cap,h2,by simp only [Nat.add_assoc]⟩
   | _=>simp at hp
 | im t y=>
  cases y with
  | cp cs off=>
   simp only [RV.shift,Option.some.injEq] at e;subst e
   cases hr with
   | @cp _ _ _ _ b ik arr T fr us rest hb hh hd hc _=>
    refine ⟨b,ik+off,rfl,?_⟩
    have:=CRi.cp (off:=off+n) (ik:=ik) hb hh hd hc (.nil (w:=w) (Fp:=W.F (tg (dm t (.cp cs off)))))
    rw [←Nat.add_assoc] at this
    exact this
  | _=>simp [RV.shift] at e
 | ws y=>
  cases y with
  | cp cs off=>
   simp only [RV.shift,Option.some.injEq] at e;subst e
   have hr:CRs w (fun b=>W.own b=some (.tr true)) [.cp cs off] [v]:=hr
   cases hr with
   | @cp _ _ _ _ b ik arr T fr us rest hb hh hd hc _=>
    refine ⟨b,ik+off,rfl,?_⟩
    have:=CRs.cp (off:=off+n) (ik:=ik) hb hh hd hc (.nil (w:=w) (Fp:=fun b=>W.own b=some (.tr true)))
    rw [←Nat.add_assoc] at this
    exact this
  | _=>simp [RV.shift] at e
 | _=>simp [RV.shift] at e
theorem WO (h:Rel B st a w W) (hn:nt=B.nt) {x:Operand} (ho:o.op= .nilCheck x) (e:aH P cfg aY nt o st=some st'):Good P B o st' a w:=by
 simp only [aH,ho] at e
 have hx:=h.get x
 split at e
 ·rename_i r hr
  rw [hr] at hx
  split at e
  ·rename_i hp
   obtain ⟨p,hv,hpn,_⟩:=Po h hp (eX hx)
   cases p with
   | none=>simp at hpn
   | some p=>
    refine gQ h hn (u:=a.eval x) ?_ (by rw [hv] at hx ⊢;exact hx) e
    simp [execOp,ho,hv]
  ·cases e
 ·rename_i f cs hr
  rw [hr] at hx
  obtain ⟨vs,hv,hvs⟩:=hx
  refine gQ h hn (u:=a.eval x) ?_ (by rw [hv];exact ⟨vs,rfl,hvs⟩) e
  simp [execOp,ho,hv]
 ·cases e
theorem UN (h:Rel B st a w W) (hn:nt=B.nt) {s:TypeId} {x:Operand} {f:Nat} (ho:o.op= .fieldAddr s x f) (e:aH P cfg aY nt o st=some st'):Good P B o st' a w:=by
 simp only [aH,ho] at e
 split at e
 ·rename_i fs hs
  obtain ⟨fd,hfd,e⟩:=Option.bind_eq_some_iff.1 e
  split at e
  ·cases e
  ·rename_i hz
   obtain ⟨r',hr',e⟩:=Option.bind_eq_some_iff.1 e
   obtain ⟨r,hr,hr'⟩:=Option.bind_eq_some_iff.1 hr'
   obtain ⟨b,off,hv,hrr⟩:=WN h hr' (GL hr (h.get x))
   refine gQ h hn (u:= .pointer (some ⟨b,off+fd.offset,none⟩)) ?_ (Cb hrr) e
   cases hi:P.info? fd.type with
   | none=>simp [Program.cellsOf,hi] at hz
   | some inf=>
    have hne:¬inf.size=0:=by
     intro h0
     rw [BC hi,h0] at hz
     exact hz rfl
    simp [execOp,ho,Instr.fieldAt,cO hs,hfd,hv,Instr.sureAddr,fieldPlace,nH hi,hne,kK]
 ·cases e
theorem CRi.slice {Fp:Nat→Prop} {sz:Nat} {es:List AV} {v:Value} (h:CRi w Fp [.row sz es] [v]):∃a0 cap,v= .slice a0 es.length cap∧(a0=none→es.length=0∧cap=0)∧(∀x,a0=some x→x.spot=none∨cap=0)∧es.length≤cap:=by
 cases h with
 | gy _=>exact ⟨_,0,rfl,fun _=>⟨rfl,rfl⟩,(fun x hx=> .inr rfl),Nat.le_refl _⟩
 | row _ _ _ _ hl _ _=>exact ⟨_,_,rfl,(fun h=>by cases h),(fun x hx=>by cases hx;exact .inl rfl),hl.1⟩
omit [Lim] in
theorem CRs.slice {Fp:Nat→Prop} {sz:Nat} {es:List AV} {v:Value} (h:CRs w Fp [.row sz es] [v]):∃a0 cap,v= .slice a0 es.length cap∧(a0=none→es.length=0∧cap=0)∧(∀x,a0=some x→x.spot=none∨cap=0)∧es.length≤cap:=by
 cases h with
 | gy _=>exact ⟨_,0,rfl,fun _=>⟨rfl,rfl⟩,(fun x hx=> .inr rfl),Nat.le_refl _⟩
 | row _ _ _ _ hl _ _=>exact ⟨_,_,rfl,(fun h=>by cases h),(fun x hx=>by cases hx;exact .inl rfl),hl⟩
theorem kJ.slice {Fp:Nat→Prop} {sz:Nat} {es:List AV} {v:Value} {ob:Option Nat} (h:kJ w Fp sz es v ob):∃a0 cap,v= .slice a0 es.length cap∧(a0=none→es.length=0∧cap=0)∧(∀x,a0=some x→x.spot=none∨cap=0)∧es.length≤cap:=by
 rcases h with ⟨rfl,⟨x,rfl⟩,_⟩ | ⟨b,off,cap,arr,T,fr,us,rest,rfl,_,_,_,_,_,_,hl,_⟩
 ·exact ⟨x,0,rfl,fun _=>⟨rfl,rfl⟩,(fun x hx=> .inr rfl),Nat.le_refl _⟩
 ·exact ⟨_,_,rfl,(fun h=>by cases h),(fun x hx=>by cases hx;exact .inl rfl),hl⟩
theorem Deep.slice {Fp:Nat→Prop} {k:Option Nat} {sz:Nat} {es:List AV} {v:Value} {us:List Value} {bs:List Nat} (h:Deep w Fp k sz es v us bs):∃a0 cap,v= .slice a0 es.length cap∧(a0=none→es.length=0∧cap=0)∧(∀x,a0=some x→x.spot=none∨cap=0)∧es.length≤cap:=by
 rcases h with ⟨rfl,⟨x,rfl⟩,_⟩ | ⟨b,off,cap,arr,T,fr,rest,ibs,rfl,_,_,_,_,_,_,hl,_⟩
 ·exact ⟨x,0,rfl,fun _=>⟨rfl,rfl⟩,(fun x hx=> .inr rfl),Nat.le_refl _⟩
 ·exact ⟨_,_,rfl,(fun h=>by cases h),(fun x hx=>by cases hx;exact .inl rfl),hl⟩
theorem GH.slice {o c:Nat} {m:OM} {s t sz:Nat} {es:List AV} {v:Value} (h:GH w W o c ⟨m,s,t,.row sz es⟩ v) (hm:m≠ .gone):
 ∃a0 cap,v= .slice a0 es.length cap∧(a0=none→es.length=0∧cap=0)∧(∀x,a0=some x→x.spot=none∨cap=0)∧es.length≤cap:=by
 cases m with
 | imm=>exact CRi.slice h
 | sh=>exact h.1.slice
 | gone=>exact absurd rfl hm
 | dp n=>obtain ⟨bs,h,_⟩:=h;exact h.slice
 | dd n i j=>obtain ⟨bs,h,_⟩:=h;exact h.slice
 | ws=>exact CRs.slice h
 | fr=>exact CRi.slice h
theorem MI (h:Rel B st a w W) {r:RV} {v:Value} {n:Nat} (e:st.len r=some n) (hr:RR w W st.L r v):∃a0 cap,v= .slice a0 n cap∧(a0=none→n=0∧cap=0)∧(∀x,a0=some x→x.spot=none∨cap=0)∧n≤cap:=by
 cases r with
 | im t y=>
  cases y with
  | row z es=>
   simp only [St.len,Option.some.injEq] at e
   subst e
   exact CRi.slice hr
  | _=>simp [St.len] at e
 | ws y=>
  cases y with
  | row z es=>
   simp only [St.len,Option.some.injEq] at e
   subst e
   exact CRs.slice hr
  | _=>simp [St.len] at e
 | nil=>
  simp only [St.len,Option.some.injEq] at e
  subst e
  exact ⟨none,0,hr,fun _=>⟨rfl,rfl⟩,(fun x hx=>by cases hx),Nat.le_refl _⟩
 | own o s c=>
  simp only [St.len] at e
  obtain ⟨⟨ob,m,s',t',z⟩,hc,e⟩:=Option.bind_eq_some_iff.1 e
  obtain ⟨hL,hx,hs⟩:=eF hc
  simp only at hs hL hx;subst hs
  obtain ⟨u,hu,hok,iq⟩:=h.cellAt hc
  obtain ⟨ob2,hL2,_,hval⟩:=hr
  rw [hL] at hL2;cases hL2
  have:=hval _ hx rfl
  rw [hu] at this;cases this
  cases m with
  | gone=>simp at e
  | _=>
   cases z with
   | row zz es=>
    simp at e;subst e
    exact hok.slice (by intro e;cases e)
   | _=>simp at e
 | sub o s c lo hi=>
  simp only [St.len] at e
  obtain ⟨⟨ob,m,s',t',z⟩,hc,e⟩:=Option.bind_eq_some_iff.1 e
  obtain ⟨hL,hx,hs⟩:=eF hc
  simp only at hs hL hx;subst hs
  obtain ⟨ob2,hL2,_,hval⟩:=hr
  rw [hL] at hL2;cases hL2
  cases m with
  | gone=>simp at e
  | _=>
   cases z with
   | row zz es=>
    simp at e;subst e
    obtain ⟨h1,h2,a0,cap,h3,h4⟩:=hval _ hx rfl (by intro e;cases e) _ _ rfl
    rcases h4 with ⟨rfl,rfl⟩ | ⟨b,off,rfl,hcap,rfl⟩
    ·obtain ⟨u,hu,hok,_⟩:=h.cellAt hc
     rw [h3] at hu;cases hu
     obtain ⟨a1,cap1,e1,e2,e6,e7⟩:=hok.slice (by intro e;cases e)
     injection e1 with e3 e4 e5
     exact ⟨a0,0,by congr 1;omega,fun _=>⟨by omega,rfl⟩,(fun x hx=> .inr rfl),by omega⟩
    ·exact ⟨_,_,rfl,(fun h=>by cases h),(fun x hx=>by cases hx;exact .inl rfl),by omega⟩
   | _=>simp at e
 | _=>simp [St.len] at e
theorem age (h:Rel B st a w W) {sz i:Nat} {r r':RV} {v:Value} (e:st.ji sz r i=some r') (hr:RR w W st.L r v):
 ∃b off n cap,v= .slice (some ⟨b,off,none⟩) n cap∧i<n∧RR w W st.L r' (.pointer (some ⟨b,off+i*sz,none⟩)):=by
 cases r with
 | im t y=>
  cases y with
  | row z es=>
   simp only [St.ji] at e
   split at e
   ·rename_i hz
    have hz:=beq_eq hz
    subst hz
    obtain ⟨ee,hee,rfl⟩:=Option.map_eq_some_iff.1 e
    have hi:i<es.length:=by
     rcases Nat.lt_or_ge i es.length with h' | h'
     ·exact h'
     ·rw [List.getElem?_eq_none h'] at hee;cases hee
    cases hr with
    | gy _=>simp at hi
    | @row _ _ _ _ b off cap arr T fr us rest hb hh hs hd hlc hc _=>
     refine ⟨b,off,es.length,cap,rfl,hi,?_⟩
     have hul:=hc.length
     rw [flat_length hs] at hul
     have e1:es.drop i=ee::es.drop (i+1):=by
      rw [List.drop_eq_getElem_cons hi]
      rw [List.getElem?_eq_getElem hi] at hee
      cases hee;rfl
     have hdc:=hc.drop (i*z)
     rw [uY hs,e1,List.flatMap_cons] at hdc
     obtain ⟨u1,u2,e2,k1,k2⟩:=hdc.tX
     have h4:i*z≤es.length*z:=Nat.mul_le_mul_right _ (by omega)
     have:=CRi.cp (cs:=ee.cells) (off:=0) (ik:=off+i*z) (us:=u1) (rest:=u2++rest) hb hh (by
      rw [←List.drop_drop,hd,List.drop_append,e2]
      have e3:i*z - us.length=0:=by omega
      rw [e3,List.drop_zero,List.append_assoc]) k1 (.nil (w:=w) (Fp:=W.F (tg (dm t (.row z es)))))
     exact this
   ·cases e
  | _=>simp [St.ji] at e
 | ws y=>
  cases y with
  | row z es=>
   simp only [St.ji] at e
   split at e
   ·rename_i hz
    have hz:=beq_eq hz
    subst hz
    obtain ⟨ee,hee,rfl⟩:=Option.map_eq_some_iff.1 e
    have hi:i<es.length:=by
     rcases Nat.lt_or_ge i es.length with h' | h'
     ·exact h'
     ·rw [List.getElem?_eq_none h'] at hee;cases hee
    have hr:CRs w (fun b=>W.own b=some (.tr true)) [.row z es] [v]:=hr
    cases hr with
    | gy _=>simp at hi
    | @row _ _ _ _ b off cap arr T fr us rest hb hh hs hd hlc hc _=>
     refine ⟨b,off,es.length,cap,rfl,hi,?_⟩
     have hul:=hc.length
     rw [flat_length hs] at hul
     have e1:es.drop i=ee::es.drop (i+1):=by
      rw [List.drop_eq_getElem_cons hi]
      rw [List.getElem?_eq_getElem hi] at hee
      cases hee;rfl
     have hdc:=hc.drop (i*z)
     rw [uY hs,e1,List.flatMap_cons] at hdc
     obtain ⟨u1,u2,e2,k1,k2⟩:=hdc.tX
     have h4:i*z≤es.length*z:=Nat.mul_le_mul_right _ (by omega)
     have:=CRs.cp (cs:=ee.cells) (off:=0) (ik:=off+i*z) (us:=u1) (rest:=u2++rest) hb hh (by
      rw [←List.drop_drop,hd,List.drop_append,e2]
      have e3:i*z - us.length=0:=by omega
      rw [e3,List.drop_zero,List.append_assoc]) k1 (.nil (w:=w) (Fp:=fun b=>W.own b=some (.tr true)))
     exact this
   ·cases e
  | _=>simp [St.ji] at e
 | own o s c=>
  simp only [St.ji] at e
  obtain ⟨⟨ob,m,s',t',y⟩,hc,e⟩:=Option.bind_eq_some_iff.1 e
  obtain ⟨hL,hx,hs⟩:=eF hc
  simp only at hs hL hx;subst hs
  obtain ⟨u,hu,hok,iq⟩:=h.cellAt hc
  obtain ⟨ob2,hL2,hss,hval⟩:=hr
  rw [hL] at hL2;cases hL2
  have:=hval _ hx rfl
  rw [hu] at this;cases this
  cases m with
  | gone=>simp at e
  | _=>
   cases y with
   | row z es=>
    simp only at e
    split at e
    ·rename_i hz
     simp only [Bool.and_eq_true] at hz
     have hz1:=beq_eq hz.1
     have hi:=zi hz.2
     have er:=Option.some.inj e
     subst hz1 er
     obtain ⟨a0,cap,e1,e2,e3,e4⟩:=hok.slice (by intro e;cases e)
     cases a0 with
     | none=>have:=(e2 rfl).1;omega
     | some x=>
      obtain ⟨b,off,sp⟩:=x
      have:sp=none:=by
       rcases e3 _ rfl with h | h
       ·exact h
       ·omega
      subst this
      refine ⟨b,off,es.length,cap,e1,hi,ob,hL,hss,fun y hy hys hm sz' es' he'=>?_⟩
      rw [hx] at hy;cases hy;cases he'
      exact ⟨hi,b,off,cap,by rw [hu,e1],rfl⟩
    ·cases e
   | _=>simp at e
 | sub o s c lo hi=>
  simp only [St.ji] at e
  obtain ⟨⟨ob,m,s',t',y⟩,hc,e⟩:=Option.bind_eq_some_iff.1 e
  obtain ⟨hL,hx,hs⟩:=eF hc
  simp only at hs hL hx;subst hs
  obtain ⟨u,hu,hok,iq⟩:=h.cellAt hc
  obtain ⟨ob2,hL2,hss,hval⟩:=hr
  rw [hL] at hL2;cases hL2
  cases m with
  | gone=>simp at e
  | _=>
   cases y with
   | row z es=>
    simp only at e
    split at e
    ·rename_i hz
     simp only [Bool.and_eq_true] at hz
     have hz1:=beq_eq hz.1
     have hi':=zi hz.2
     have er:=Option.some.inj e
     subst hz1 er
     obtain ⟨h1,h2,a0,cap,h3,h4⟩:=hval _ hx rfl (by intro e;cases e) _ _ rfl
     rcases h4 with ⟨rfl,rfl⟩ | ⟨b,off,rfl,hcap,rfl⟩
     ·rw [h3] at hu;cases hu
      obtain ⟨a1,cap1,e1,e2,_,e6⟩:=hok.slice (by intro e;cases e)
      injection e1 with e3 e4 e5
      omega
     ·refine ⟨b,_,_,_,rfl,hi',ob,hL,hss,fun y hy hys hm sz' es' he'=>?_⟩
      rw [hx] at hy;cases hy;cases he'
      refine ⟨by omega,b,off,cap,h3,?_⟩
      rw [if_neg (by omega),Nat.add_mul,Nat.add_zero,Nat.add_assoc]
    ·cases e
   | _=>simp at e
 | _=>simp [St.ji] at e
omit [Lim] in
theorem xm {i:Int} {n:Nat} (h:vU i=some n):0≤i∧i.toNat=n:=by
 unfold vU at h
 split at h
 ·cases h;exact ⟨by assumption,rfl⟩
 ·cases h
theorem UO (h:Rel B st a w W) (hn:nt=B.nt) {t:TypeId} {x i:Operand} (ho:o.op= .indexAddr t x i) (e:aH P cfg aY nt o st=some st'):Good P B o st' a w:=by
 simp only [aH,ho] at e
 obtain ⟨⟨k,n⟩,hi,e⟩:=Option.bind_eq_some_iff.1 e
 obtain ⟨m,hm,e⟩:=Option.bind_eq_some_iff.1 e
 obtain ⟨r,hr,e⟩:=Option.bind_eq_some_iff.1 e
 have hiv:=KL hi (h.get i)
 obtain ⟨h0,hmn⟩:=xm hm
 split at e
 ·rename_i el hu
  obtain ⟨inf,ai9,e⟩:=Option.bind_eq_some_iff.1 e
  obtain ⟨r',hr',e⟩:=Option.bind_eq_some_iff.1 e
  obtain ⟨b,off,len,cap,hv,hlt,hrr⟩:=age h hr' (GL hr (h.get x))
  refine gQ h hn (u:= .pointer (some ⟨b,off+m*inf.size,none⟩)) ?_ (Cb hrr) e
  have hc:0≤n∧n< (len:Int):=⟨h0,by omega⟩
  simp [execOp,ho,Instr.indexAt,hiv,hv,asIntOf,cO hu,hc.1,hc.2,nH ai9,kK,hmn]
 ·rename_i ln el hu
  split at e
  ·rename_i hlt
   have hlt:=zi hlt
   obtain ⟨inf,ai9,e⟩:=Option.bind_eq_some_iff.1 e
   obtain ⟨r',hr',e⟩:=Option.bind_eq_some_iff.1 e
   obtain ⟨b,off,hv,hrr⟩:=WN h hr' (GL hr (h.get x))
   refine gQ h hn (u:= .pointer (some ⟨b,off+m*inf.size,none⟩)) ?_ (Cb hrr) e
   have hc:0≤n∧n< (ln:Int):=⟨h0,by omega⟩
   simp [execOp,ho,Instr.indexAt,hiv,hv,asIntOf,cO hu,hc.1,hc.2,nH ai9,kK,hmn,Instr.sureAddr]
  ·cases e
 ·cases e
theorem adk (h:Rel B st a w W) (hn:nt=B.nt) {t:TypeId} {x i:Operand} (ho:o.op= .index t x i) (e:aH P cfg aY nt o st=some st'):Good P B o st' a w:=by
 simp only [aH,ho] at e
 obtain ⟨⟨k,n⟩,hi,e⟩:=Option.bind_eq_some_iff.1 e
 obtain ⟨m,hm,e⟩:=Option.bind_eq_some_iff.1 e
 have hiv:=KL hi (h.get i)
 obtain ⟨h0,hmn⟩:=xm hm
 split at e
 ·rename_i t0 s hu hs
  have hx:=h.get x
  rw [hs] at hx
  have hxv:=(qI (eX hx)).1
  obtain ⟨b,hb,e⟩:=Option.bind_eq_some_iff.1 e
  refine gQ h hn (u:= .int .u8 b.toNat) ?_ (Jr rfl) e
  have hb':s[m]?=some b:=by
   rw [Array.getElem?_toList] at hb
   have hml:m<s.size:=by
    rcases Nat.lt_or_ge m s.size with h' | h'
    ·exact h'
    ·have:s.data[m]?=none:=Array.getElem?_eq_none h'
     rw [this] at hb;cases hb
   rw [getElem?_pos s m hml]
   rw [Array.getElem?_eq_getElem hml] at hb
   exact hb
  simp [execOp,ho,Instr.index,hiv,hxv,asIntOf,cO hu,h0,hmn,hb']
 ·obtain ⟨r,e1,e⟩:=Option.bind_eq_some_iff.1 e
  have hx:=h.get x
  generalize hs:st.get x=sx at e1 hx
  unfold ac7 at e1
  split at e1
  ·rename_i cs
   split at e1
   ·rename_i len el hu
    obtain ⟨inf,hi1,e1⟩:=Option.bind_eq_some_iff.1 e1
    split at e1
    ·rename_i hc
     simp only [Bool.and_eq_true,Bool.not_eq_true'] at hc
     obtain ⟨⟨c1,c2⟩,c3⟩:=hc
     have c1:=zi c1
     have c3:=beq_eq c3
     obtain ⟨dsc,aja,e1⟩:=Option.bind_eq_some_iff.1 e1
     rcases hx with ⟨_,vs,hv,hrs⟩ | ⟨hx,_⟩
     ·have get:∀{rs:List RV} {us:List Value} {q:Nat},RRs w W st.L rs us→rs[q]?=some r→∃u,us[q]?=some u∧RR w W st.L r u:=by
       intro rs us q hr
       induction hr generalizing q with
       | nil=>intro e;simp at e
       | cons h1 _ ih=>
        intro e
        cases q with
        | zero=>simp at e;subst e;exact ⟨_,rfl,h1⟩
        | succ q=>simpa using ih (q:=q) (by simpa using e)
      obtain ⟨u,hu1,hr⟩:=get hrs e1
      refine gQ h hn (v:= .v false [r]) (u:=u) ?_ (Or.inr ⟨rfl,r,rfl,hr⟩:Dy w W st.L (false,[r]) u) e
      have hu2:vs[m]?=some u:=by simpa using hu1
      have hagg:(isAgg el).run P w= .ok false w:=by rw [IK aja,c2]
      have hlt:n< (len:Int):=by omega
      simp [execOp,ho,Instr.index,hiv,hv,asIntOf,cO hu,h0,hmn,hlt,nH hi1,c3,part,hagg,hu2]
     ·cases hx
    ·cases e1
   ·cases e1
  ·cases e1
end
end
end Go.Sim
