/- The operations that only compute or read: what the deterministic machine answers is what the model's own operation answers. Conditions: none. -/
import Derived.Test.YtngbehdgjocndaaGreatSimE
import Derived.Laws.Sem
import Derived.Laws.Cells
import Derived.Laws.Slices
import Derived.Laws.Rows
namespace Go.Sim
variable [Lim]
open Classical
set_option linter.unusedSimpArgs false
set_option linter.unusedVariables false
noncomputable section
omit [Lim] in
theorem kK (b off j:Nat):(⟨b,off,none⟩:Addr).add j=⟨b,off+j,none⟩:=by
 unfold Addr.add;split
 ·rename_i h;subst h;rfl
 ·rfl
def valOf (ag:Bool) (us:List Value):Value:=if ag then .agg us.toArray else us.headD undef
section
variable {P:Program} {B:Base} {st:St} {a:Act} {w:World} {W:Wit}
def Good (P:Program) (B:Base) (o:Oper) (st':St) (a:Act) (w:World):Prop:=
 ∀(K:Act→World→Prop) (Q:Exit→Act→World→Prop),(∀a' w' W',Rel B st' a' w' W'→K a' w')→o.wp P a w K Q
theorem Good.value {o:Oper} {st':St} {u:Value} {w':World} {W':Wit} (hr:(execOp a.eval o).run P w= .ok (.value u) w') (h:Rel B st' (a.put o.dst u) w' W'):Good P B o st' a w:=by
 intro K Q hk
 unfold Oper.wp Oper.upon
 rw [hr]
 exact hk _ _ _ h
theorem Good.skip {o:Oper} {st':St} {w':World} {W':Wit} (hr:(execOp a.eval o).run P w= .ok .skip w') (h:Rel B st' (a.put o.dst undef) w' W'):Good P B o st' a w:=by
 intro K Q hk
 unfold Oper.wp Oper.upon
 rw [hr]
 exact hk _ _ _ h
omit [Lim] in
theorem JB {t:TypeId} {d:TypeDesc} (h:P.underlying t=some d):∃i,P.info? t=some i:=by
 unfold Program.underlying at h
 cases hi:P.info? t with
 | none=>simp [hi] at h
 | some i=>exact ⟨i,rfl⟩
omit [Lim] in
theorem cO {t:TypeId} {d:TypeDesc} (h:P.underlying t=some d):(underlying t).run P w= .ok d w:=by
 simp [underlying,h]
omit [Lim] in
theorem Eg {t:TypeId} {i:TypeInfo} (h:P.info? t=some i):(typeInfo t).run P w= .ok i w:=by
 simp [typeInfo,h]
omit [Lim] in
theorem nH {t:TypeId} {i:TypeInfo} (h:P.info? t=some i):(sizeOf t).run P w= .ok i.size w:=by
 simp [sizeOf,Eg h]
omit [Lim] in
theorem BC {t:TypeId} {i:TypeInfo} (h:P.info? t=some i):P.cellsOf t=i.size:=by
 simp [Program.cellsOf,h]
omit [Lim] in
theorem IK {t:TypeId} {d:TypeDesc} (h:P.underlying t=some d):(isAgg t).run P w= .ok (fJ P t) w:=by
 unfold isAgg fJ
 simp only [Sem.run_bind,cO h,Result.andThen_ok,h]
 cases d<;>rfl
omit [Lim] in
theorem GI {t:TypeId} {ks:List (Option Nat)} (h:fC P t=some ks):∃d,P.underlying t=some d:=by
 unfold fC IB at h
 cases hu:P.underlying t with
 | none=>simp [hu] at h
 | some d=>exact ⟨d,rfl⟩
omit [Lim] in
theorem KJ {b off j:Nat} {arr:Array Value} {T:TypeId} {fr:Nat×Nat} (hb:w.heap[b]?=some (.cells arr T fr)):w.cell? ⟨b,off+j,none⟩=arr[off+j]?:=by
 simp [World.cell?,hb]
omit [Lim] in
theorem Oo {t:TypeId} {d:TypeDesc} {b off:Nat} {arr:Array Value} {T:TypeId} {fr:Nat×Nat} {us rest:List Value} (hu:P.underlying t=some d) (hb:w.heap[b]?=some (.cells arr T fr))
 (hd:arr.toList.drop off=us++rest) (hn:us.length=if fJ P t then P.cellsOf t else 1):(loadVar t ⟨b,off,none⟩).run P w= .ok (valOf (fJ P t) us) w:=by
 obtain ⟨i,hi⟩:=JB hu
 have hcell:∀j v,us[j]?=some v→w.cell? ((⟨b,off,none⟩:Addr).add j)=some v:=by
  intro j v hj
  rw [kK,KJ hb]
  have hjl:j<us.length:=by
   rcases Nat.lt_or_ge j us.length with h' | h'
   ·exact h'
   ·rw [List.getElem?_eq_none h'] at hj;cases hj
  have:(arr.toList.drop off)[j]?=some v:=by rw [hd,List.getElem?_append_left hjl];exact hj
  rw [List.getElem?_drop] at this
  simpa using this
 unfold loadVar
 simp only [Sem.run_bind,IK hu,Result.andThen_ok]
 cases hag:fJ P t with
 | true=>
  rw [hag] at hn
  simp only [if_true] at hn ⊢
  simp only [Sem.run_bind,nH hi,Result.andThen_ok]
  rw [BC hi] at hn
  have:=run_loadCells_list (P:=P) (w:=w) ⟨b,off,none⟩ us hcell
  rw [hn] at this
  rw [this]
  simp [valOf]
 | false=>
  rw [hag] at hn
  simp only [Bool.false_eq_true,if_false] at hn ⊢
  match us,hn with
  | [v],_=>
   have h0:=hcell 0 v rfl
   rw [show (⟨b,off,none⟩:Addr).add 0=⟨b,off,none⟩ from rfl] at h0
   simp [run_load,h0,valOf]
theorem RRs.length {L:Nat→Option Obj} {rs:List RV} {vs:List Value} (h:RRs w W L rs vs):rs.length=vs.length:=by
 induction h<;>simp_all
theorem zk {L:Nat→Option Obj} {ag:Bool} {rs:List RV} {us:List Value} {sv:SV} (h:SV.jO ag rs=some sv) (hr:RRs w W L rs us):SR w W L sv (valOf ag us):=by
 unfold SV.jO at h
 cases ag with
 | true=>simp at h;subst h;exact .inl ⟨rfl,_,rfl,by simpa using hr⟩
 | false=>
  simp at h
  split at h
  ·rename_i r
   cases h
   cases hr with
   | cons h1 h2=>cases h2;exact .inr ⟨rfl,r,rfl,h1⟩
  ·cases h
theorem JC {L:Nat→Option Obj} {t:Nat}:∀{as:List AV} {us:List Value},(∀b,W.F 0 b→W.F 1 b)→(∀b,W.F 1 b→W.F 2 b)→CRi w (W.F (tg t)) as us→RRs w W L (as.map (.im t)) us
 | [],_,_,_,h=>by cases h;exact .nil
 | x::as,_,h1,h2,h=>by
  obtain ⟨v,us,rfl,h4,h5⟩:=h.cons_inv
  refine .cons ?_ (JC h1 h2 h5)
  show CRi w (W.F (tg (dm t x))) [x] [v]
  cases x with
  | sc y=>cases h4 with | sc hp _=>exact .sc hp .nil
  | _=>exact h4
theorem Yk {L:Nat→Option Obj}:∀{as:List AV} {us:List Value},CRs w (fun b=>W.own b=some (.tr true)) as us→RRs w W L (as.map .ws) us
 | [],_,h=>by cases h;exact .nil
 | x::as,_,h=>by
  obtain ⟨v,us,rfl,h4,h5⟩:=h.cons_inv
  exact .cons h4 (Yk h5)
theorem PL (h:Rel B st a w W) {o:Nat} {ob:Obj} (hL:st.L o=some ob):∀(cs:List Cell) (c:Nat),(∀j x,cs[j]?=some x→ob.cs[c+j]?=some x)→
 RRs w W st.L (uV o c cs) (((W.vals o).drop c).take cs.length)
 | [],c,_=>by simpa [uV] using RRs.nil
 | x::cs,c,hx=>by
  have iq:=h.iJ o ob hL
  have h0:ob.cs[c]?=some x:=by simpa using hx 0 x rfl
  obtain ⟨v,hv⟩:=WI iq h0
  have hok:=iq.cells c x v h0 hv
  have hcl:c< (W.vals o).length:=by
   rcases Nat.lt_or_ge c (W.vals o).length with h' | h'
   ·exact h'
   ·rw [List.getElem?_eq_none h'] at hv;cases hv
  have e:((W.vals o).drop c).take (x::cs).length=v::(((W.vals o).drop (c+1)).take cs.length):=by
   rw [List.drop_eq_getElem_cons hcl]
   rw [List.getElem?_eq_getElem hcl] at hv
   cases hv
   rw [List.length_cons,List.take_succ_cons]
  have ih:=PL h hL cs (c+1) fun j y hy=>by
   have:=hx (j+1) y (by simpa using hy)
   rw [←this];congr 1;omega
  rw [e]
  obtain ⟨m,s,t,y⟩:=x
  cases m with
  | imm=>
   refine .cons ?_ ih
   show CRi w (W.F (tg (dm (dm t y) y))) [y] [v]
   have:dm (dm t y) y=dm t y:=by cases y<;>rfl
   rw [this];exact hok
  | sh=>
   refine .cons ⟨ob,hL,iq.ctr _ (List.mem_of_getElem? h0),fun x' hx' _=>hv⟩ ih
  | gone=>exact .cons trivial ih
  | dp n=>
   refine .cons ⟨ob,hL,iq.ctr _ (List.mem_of_getElem? h0),fun x' hx' _=>hv⟩ ih
  | dd n i j=>
   refine .cons ⟨ob,hL,iq.ctr _ (List.mem_of_getElem? h0),fun x' hx' _=>hv⟩ ih
  | ws=>exact .cons hok ih
  | fr=>exact .cons hok ih
theorem WJ (h:Rel B st a w W) {o s c i n t sz:Nat} {ob:Obj} {es:List AV} {bs:List Nat} (hL:st.L o=some ob) (hx:ob.cs[c]?=some ⟨.dp n,s,t,.row sz es⟩) (hc:CRo w (W.F (tg t)) (es.flatMap AV.cells) (W.us o c) bs):
 ∀(as:List AV) (j:Nat),(∀q a,as[q]?=some a→(es.flatMap AV.cells)[i*sz+(j+q)]?=some a)→RRs w W st.L (Oj o s c i n t j as) (((W.us o c).drop (i*sz+j)).take as.length)
 | [],j,_=>by simpa [Oj] using RRs.nil
 | x::as,j,hx'=>by
  have h0:(es.flatMap AV.cells)[i*sz+j]?=some x:=by simpa using hx' 0 x rfl
  obtain ⟨v,hv,h1,h2⟩:=CRo.get hc h0
  have hcl:i*sz+j< (W.us o c).length:=by
   rcases Nat.lt_or_ge (i*sz+j) (W.us o c).length with h' | h'
   ·exact h'
   ·rw [List.getElem?_eq_none h'] at hv;cases hv
  have e:((W.us o c).drop (i*sz+j)).take (x::as).length=v::(((W.us o c).drop (i*sz+(j+1))).take as.length):=by
   rw [List.drop_eq_getElem_cons hcl]
   rw [List.getElem?_eq_getElem hcl] at hv
   cases hv
   rw [List.length_cons,List.take_succ_cons]
   rfl
  have ih:=WJ h hL hx hc as (j+1) fun q y hy=>by
   have:=hx' (q+1) y (by simpa using hy)
   rwa [show j+1+q=j+(q+1) by omega]
  rw [e]
  have other:(∀z es',x≠ .row z es')→Oj o s c i n t j (x::as)= .im t x::Oj o s c i n t (j+1) as:=by
   intro hn
   cases x with
   | row z es'=>exact absurd rfl (hn z es')
   | _=>rfl
  by_cases hr:∃z es',x= .row z es'
  ·obtain ⟨z,es',rfl⟩:=hr
   refine .cons ⟨ob,hL,(h.iJ o ob hL).ctr _ (List.mem_of_getElem? hx),fun y hy _=>⟨fun k hk=>?_,fun hm sz' es2 he=>?_⟩⟩ ih
   ·rw [hx] at hy;cases hy;cases hk
    exact Nat.le_refl _
   ·rw [hx] at hy;cases hy;cases he
    exact hv
  ·have hn:∀z es',x≠ .row z es':=fun z es' e=>hr ⟨z,es',e⟩
   rw [other hn]
   refine .cons ?_ ih
   have hk:=h1 hn
   show CRi w (W.F (tg (dm t x))) [x] [v]
   cases x with
   | sc y=>cases hk with | sc hp _=>exact .sc hp .nil
   | _=>exact hk
theorem ZM (h:Rel B st a w W) {ag:Bool} {n:Nat} {r:RV} {v:Value} {sv:SV} (hr:RR w W st.L r v) (e:st.load ag n r=some sv):
 ∃b off arr T fr us rest,v= .pointer (some ⟨b,off,none⟩)∧w.heap[b]?=some (.cells arr T fr)∧arr.toList.drop off=us++rest∧us.length=n∧SR w W st.L sv (valOf ag us):=by
 have imm:∀{cs:List AV} {off t:Nat} {v:Value},CRi w (W.F (tg t)) [.cp cs off] [v]→off+n≤cs.length→SV.jO ag (((cs.drop off).take n).map (.im t))=some sv→
  ∃b off arr T fr us rest,v= .pointer (some ⟨b,off,none⟩)∧w.heap[b]?=some (.cells arr T fr)∧arr.toList.drop off=us++rest∧us.length=n∧SR w W st.L sv (valOf ag us):=by
  intro cs off t v hc hle e
  cases hc with
  | @cp _ _ _ _ b ik arr T fr us rest hb hh hd hcs _=>
   have hl:=hcs.length
   refine ⟨b,ik+off,arr,T,fr,(us.drop off).take n,us.drop (off+n)++rest,rfl,hh,?_,?_,zk e (JC h.f01 h.f12 ((hcs.drop off).take n))⟩
   ·rw [←List.drop_drop,hd,List.drop_append,←List.append_assoc]
    have e2:off - us.length=0:=by omega
    rw [e2,List.drop_zero]
    congr 1
    conv=>lhs;rw [←List.take_append_drop n (us.drop off)]
    rw [List.drop_drop]
   ·simp;omega
 cases r with
 | im t y=>
  cases y with
  | cp cs off=>
   simp only [St.load] at e
   split at e
   ·rename_i hle
    exact imm hr (qH hle) e
   ·cases e
  | _=>simp [St.load] at e
 | mp o s off=>
  simp only [St.load] at e
  obtain ⟨ob,ho,e⟩:=Option.bind_eq_some_iff.1 e
  obtain ⟨hL,hg⟩:=xW ho
  split at e
  ·rename_i hm
   simp only [Bool.and_eq_true] at hm
   obtain ⟨hm,hle⟩:=hm
   have hle:=qH hle
   obtain ⟨ob2,hL2,_,hval⟩:=hr
   rw [hL] at hL2;cases hL2
   obtain ⟨_,rfl⟩:=hval hg
   have iq:=h.iJ o ob hL
   obtain ⟨arr,T,fr,h1,h2,h3,_⟩:=iq.mem hm
   have hlen:=iq.len
   have hcl:((ob.cs.drop off).take n).length=n:=by simp;omega
   refine ⟨_,off,arr,T,fr,((W.vals o).drop off).take n,((W.vals o).drop off).drop n,rfl,h1,by rw [h2,List.take_append_drop],by simp;omega,zk e ?_⟩
   have:=PL h hL ((ob.cs.drop off).take n) off fun j x hx=>by
    rw [List.getElem?_take] at hx
    split at hx
    ·rw [List.getElem?_drop] at hx;exact hx
    ·cases hx
   rwa [hcl] at this
  ·cases e
 | mpe o s c i off=>
  simp only [St.load] at e
  obtain ⟨p,hc,e⟩:=Option.bind_eq_some_iff.1 e
  obtain ⟨ob,m,s',t',z⟩:=p
  obtain ⟨hL,hx,hs⟩:=eF hc
  simp only at hs hL hx;subst hs
  obtain ⟨u,hu,hok,iq⟩:=h.cellAt hc
  obtain ⟨ob2,hL2,_,hval⟩:=hr
  rw [hL] at hL2;cases hL2
  have key:∀{zz:Nat} {es:List AV} {ee:AV} {b ik cap:Nat} {Fp:Nat→Prop} {arr:Array Value} {T:TypeId} {fr:Nat×Nat} {us rest:List Value},(∀b,Fp b→W.F (tg t') b)→es[i]?=some ee→off+n≤ee.cells.length→
   w.heap[b]?=some (.cells arr T fr)→(∀e∈es,e.cells.length=zz)→arr.toList.drop ik=us++rest→CRi w Fp (es.flatMap AV.cells) us→SV.jO ag (((ee.cells.drop off).take n).map (.im t'))=some sv→
   ∃b' off' arr T fr us rest,Value.pointer (some ⟨b,ik+i*zz+off,none⟩)= .pointer (some ⟨b',off',none⟩)∧w.heap[b']?=some (.cells arr T fr)∧arr.toList.drop off'=us++rest∧us.length=n∧SR w W st.L sv (valOf ag us):=by
   intro zz es ee b ik cap Fp arr T fr us rest hFp hee hle hh hsz hd hcr he
   have hi:i<es.length:=by
    rcases Nat.lt_or_ge i es.length with h' | h'
    ·exact h'
    ·rw [List.getElem?_eq_none h'] at hee;cases hee
   have hul:=hcr.length
   rw [flat_length hsz] at hul
   have e1:es.drop i=ee::es.drop (i+1):=by
    rw [List.drop_eq_getElem_cons hi]
    rw [List.getElem?_eq_getElem hi] at hee
    cases hee;rfl
   have hdc:=hcr.drop (i*zz)
   rw [uY hsz,e1,List.flatMap_cons] at hdc
   obtain ⟨u1,u2,e2,k1,k2⟩:=hdc.tX
   have hl1:=k1.length
   have h4:i*zz≤es.length*zz:=Nat.mul_le_mul_right _ (by omega)
   have hd2:arr.toList.drop (ik+i*zz)=u1++(u2++rest):=by
    rw [←List.drop_drop,hd,List.drop_append,e2]
    have e3:i*zz - us.length=0:=by omega
    rw [e3,List.drop_zero,List.append_assoc]
   refine ⟨b,ik+i*zz+off,arr,T,fr,(u1.drop off).take n,u1.drop (off+n)++(u2++rest),rfl,hh,?_,?_,zk he (JC h.f01 h.f12 (((k1.mono fun b hb=>⟨hFp b hb,rfl⟩).drop off).take n))⟩
   ·rw [←List.drop_drop,hd2,List.drop_append,←List.append_assoc]
    have e2:off - u1.length=0:=by omega
    rw [e2,List.drop_zero]
    congr 1
    conv=>lhs;rw [←List.take_append_drop n (u1.drop off)]
    rw [List.drop_drop]
   ·simp;omega
  cases m with
  | gone=>simp at e
  | dd n i j=>simp at e
  | ws=>simp at e
  | fr=>simp at e
  | dp m=>
   cases z with
   | row zz es=>
    simp only at e
    obtain ⟨ee,hee,e⟩:=Option.bind_eq_some_iff.1 e
    split at e
    ·rename_i hle
     have hle:=qH hle
     obtain ⟨h1,b,ik,cap,h3,rfl⟩:=hval _ hx rfl (by intro e;cases e) _ _ rfl
     rw [hu] at h3;cases h3
     obtain ⟨bs,hd0,_,_⟩:=hok
     rcases hd0 with ⟨hn,_⟩ | ⟨b',off',cap',arr,T,fr,rest,ibs,hv,_,hh,hf,hsz,hd,hcr,_⟩
     ·rw [hn] at h1;simp at h1
     ·cases hv
      have hlen:=CRo.length hcr
      rw [flat_length hsz] at hlen
      have h4:(i+1) *zz≤es.length*zz:=Nat.mul_le_mul_right _ (by omega)
      rw [Nat.succ_mul] at h4
      have hel:ee.cells.length=zz:=hsz ee (List.mem_of_getElem? hee)
      have hcl:((ee.cells.drop off).take n).length=n:=by simp;omega
      refine ⟨b,ik+i*zz+off,arr,T,fr,((W.us o c).drop (i*zz+off)).take n,((W.us o c).drop (i*zz+off)).drop n++rest,rfl,hh,?_,by simp;omega,zk e ?_⟩
      ·rw [←List.append_assoc,List.take_append_drop,show ik+i*zz+off=ik+(i*zz+off) by omega,←List.drop_drop,hd,List.drop_append]
       have e3:i*zz+off - (W.us o c).length=0:=by omega
       rw [e3,List.drop_zero]
      ·have:=WJ (i:=i) h hL hx hcr ((ee.cells.drop off).take n) off fun q y hy=>by
        rw [List.getElem?_take] at hy
        split at hy
        ·rw [List.getElem?_drop] at hy
         exact flat_get hsz hee hy
        ·cases hy
       rwa [hcl] at this
    ·cases e
   | _=>simp at e
  | imm=>
   cases z with
   | row zz es=>
    simp only at e
    obtain ⟨ee,hee,e⟩:=Option.bind_eq_some_iff.1 e
    split at e
    ·rename_i hle
     obtain ⟨h1,b,ik,cap,h3,rfl⟩:=hval _ hx rfl (by intro e;cases e) _ _ rfl
     rw [hu] at h3;cases h3
     have hok':CRi w (W.F (tg t')) [.row zz es] [.slice (some ⟨b,ik,none⟩) es.length cap]:=hok
     cases hok' with
     | gy _=>simp at hee
     | row hb hh hsz hd hlc hcr _=>exact key (cap:=cap) (fun _ hb=>hb) hee (qH hle) hh hsz hd hcr e
    ·cases e
   | _=>simp at e
  | sh=>
   cases z with
   | row zz es=>
    simp only at e
    obtain ⟨ee,hee,e⟩:=Option.bind_eq_some_iff.1 e
    split at e
    ·rename_i hle
     obtain ⟨h1,b,ik,cap,h3,rfl⟩:=hval _ hx rfl (by intro e;cases e) _ _ rfl
     rw [hu] at h3;cases h3
     rcases hok.1 with ⟨hn,_,_⟩ | ⟨b',off',cap',arr,T,fr,us,rest,hv,_,hh,hf,hsz,hd,hcr,_⟩
     ·subst hn;simp at hee
     ·cases hv
      exact key (cap:=cap) (fun _ hb=>hb) hee (qH hle) hh hsz hd hcr e
    ·cases e
   | _=>simp at e
 | ws y=>
  cases y with
  | cp cs off=>
   simp only [St.load] at e
   split at e
   ·rename_i hle
    have hle:=qH hle
    have hr:CRs w (fun b=>W.own b=some (.tr true)) [.cp cs off] [v]:=hr
    cases hr with
    | @cp _ _ _ _ b ik arr T fr us rest hb hh hd hc hr=>
     cases hr
     have hl:=hc.length
     refine ⟨b,ik+off,arr,T,fr,(us.drop off).take n,us.drop (off+n)++rest,rfl,hh,?_,by simp;omega,zk e (Yk ((hc.drop off).take n))⟩
     rw [←List.drop_drop,hd,List.drop_append,←List.append_assoc]
     have e2:off - us.length=0:=by omega
     rw [e2,List.drop_zero]
     congr 1
     conv=>lhs;rw [←List.take_append_drop n (us.drop off)]
     rw [List.drop_drop]
   ·cases e
  | _=>simp [St.load] at e
 | _=>simp [St.load] at e
end
end
end Go.Sim
