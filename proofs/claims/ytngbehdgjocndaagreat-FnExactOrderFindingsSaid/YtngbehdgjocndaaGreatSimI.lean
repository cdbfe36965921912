/- Appending. Conditions: none. -/
import Derived.Test.YtngbehdgjocndaaGreatSimH
namespace Go.Sim
variable [Lim]
open Classical
set_option linter.unusedSimpArgs false
set_option linter.unusedVariables false
noncomputable section
def Ot (w:World) (Fp:Nat→Prop) (sz:Nat) (es:List AV) (v:Value):Prop:=
 (es=[]∧∃x:Option Addr,v= .slice x 0 0)∨
 ∃b off cap arr T fr us rest,v= .slice (some ⟨b,off,none⟩) es.length cap∧w.heap[b]?=some (.cells arr T fr)∧
  (∀e∈es,e.cells.length=sz)∧arr.toList.drop off=us++rest∧CRi w Fp (es.flatMap AV.cells) us∧es.length≤cap
section
variable {P:Program} {B:Base} {st:St} {a:Act} {w:World} {W:Wit}
theorem CRi.rowAt {Fp:Nat→Prop} {sz:Nat} {es:List AV} {v:Value} (h:CRi w Fp [.row sz es] [v]):Ot w Fp sz es v:=by
 cases h with
 | gy _=>exact .inl ⟨rfl,_,rfl⟩
 | row _ hh hs hd hlc hc _=>exact .inr ⟨_,_,_,_,_,_,_,_,rfl,hh,hs,hd,hc,hlc.1⟩
theorem kJ.rowAt {Fp:Nat→Prop} {sz:Nat} {es:List AV} {v:Value} {ob:Option Nat} (h:kJ w Fp sz es v ob):Ot w Fp sz es v:=by
 rcases h with ⟨h1,h2,_⟩ | ⟨b,off,cap,arr,T,fr,us,rest,h1,_,h2,_,h3,h4,h5,h6,_⟩
 ·exact .inl ⟨h1,h2⟩
 ·exact .inr ⟨b,off,cap,arr,T,fr,us,rest,h1,h2,h3,h4,h5,h6⟩
theorem Ot.part {Fp:Nat→Prop} {sz:Nat} {es:List AV} {a0:Option Addr} {n cap lo hi:Nat} {v:Value} (h:Ot w Fp sz es (.slice a0 n cap)) (hlh:lo≤hi) (hh:hi≤es.length)
 (hv:(cap=0∧v= .slice a0 0 0)∨∃b off,a0=some ⟨b,off,none⟩∧hi≤cap∧v= .slice (some ⟨b,if cap=lo then off else off+lo*sz,none⟩) (hi - lo) (cap - lo)):
 Ot w Fp sz ((es.take hi).drop lo) v:=by
 rcases h with ⟨rfl,x,h1⟩ | ⟨b,off,cap',arr,T,fr,us,rest,h1,hh',hs,hd,hc,hl⟩
 ·injection h1 with h1 h1' adf
  subst h1 h1' adf
  rcases hv with ⟨_,rfl⟩ | ⟨b,off,h2,hc0,rfl⟩
  ·exact .inl ⟨by simp,_,rfl⟩
  ·obtain rfl:hi=0:=by simp at hh;omega
   obtain rfl:lo=0:=by omega
   exact .inl ⟨by simp,_,rfl⟩
 ·injection h1 with h1 h1' adf
  subst h1 h1' adf
  replace hv:=ade hh hlh hl hv
  rcases hv with ⟨b',off',h2,hcap,rfl⟩
  ·cases h2
   have hlen:((es.take hi).drop lo).length=hi - lo:=by simp;omega
   have hs':∀e∈(es.take hi).drop lo,e.cells.length=sz:=fun e he=>hs e (List.mem_of_mem_take (List.mem_of_mem_drop he))
   by_cases e:cap=lo
   ·have e1:(es.take hi).drop lo=[]:=List.drop_eq_nil_of_le (by simp;omega)
    exact .inr ⟨b,off,cap - lo,arr,T,fr,[],us++rest,by rw [if_pos e,hlen],hh',hs',by simpa using hd,by rw [e1];exact CRi.nil,by rw [e1];simp⟩
   ·have hul:=hc.length
    rw [flat_length hs] at hul
    have h3:lo*sz≤hi*sz:=Nat.mul_le_mul_right _ hlh
    have h4:hi*sz≤es.length*sz:=Nat.mul_le_mul_right _ hh
    refine .inr ⟨b,off+lo*sz,cap - lo,arr,T,fr,(us.take (hi*sz)).drop (lo*sz),us.drop (hi*sz)++rest,by rw [if_neg e,hlen],hh',hs',?_,?_,by rw [hlen];omega⟩
    ·rw [←List.drop_drop,hd,List.drop_append,←List.append_assoc]
     have e2:lo*sz - us.length=0:=by omega
     rw [e2,List.drop_zero]
     congr 1
     rw [List.drop_take]
     conv=>lhs;rw [←List.take_append_drop (hi*sz - lo*sz) (us.drop (lo*sz))]
     rw [List.drop_drop]
     congr 2
     omega
    ·have:=(hc.take (hi*sz)).drop (lo*sz)
     rw [IG hs,uY (fun e he=>hs e (List.mem_of_mem_take he))] at this
     exact this
theorem adh (h:Rel B st a w W) {sz z t:Nat} {bo:Bool} {es:List AV} {r:RV} {v:Value} (hdp:st.WG r=false) (hr:RR w W st.L r v) (e:st.view sz r=some (bo,t,.row z es)):Ot w (W.F (tg t)) z es v:=by
 cases r with
 | im t0 y=>
  simp only [St.view,Option.some.injEq,Prod.mk.injEq] at e
  obtain ⟨-,rfl,rfl⟩:=e
  exact CRi.rowAt hr
 | nil=>
  simp only [St.view,Option.some.injEq,Prod.mk.injEq] at e
  obtain ⟨-,rfl,e⟩:=e
  injection e with e1 e2
  subst e1 e2
  exact .inl ⟨rfl,_,hr⟩
 | qC=>simp [St.view] at e
 | fr a=>simp [St.view] at e
 | ws a=>simp [St.view] at e
 | inr o s c i j n=>simp [St.view] at e
 | mp o s off=>
  simp only [St.view] at e
  obtain ⟨ob,_,e⟩:=Option.bind_eq_some_iff.1 e
  split at e<;>simp at e
 | mpe o s c i off=>
  simp only [St.view] at e
  obtain ⟨⟨ob,m,s',t',y⟩,_,e⟩:=Option.bind_eq_some_iff.1 e
  cases m<;>cases y<;>simp at e
 | own o s c=>
  simp only [St.view] at e
  obtain ⟨⟨ob,m,s',t',y⟩,hc,e⟩:=Option.bind_eq_some_iff.1 e
  obtain ⟨hL,hx,hs⟩:=eF hc
  simp only at hs hL hx;subst hs
  obtain ⟨u,hu,hok,iq⟩:=h.cellAt hc
  obtain ⟨ob2,hL2,_,hval⟩:=hr
  rw [hL] at hL2;cases hL2
  have:=hval _ hx rfl
  rw [hu] at this;cases this
  cases m with
  | gone=>simp at e
  | imm=>
   simp at e
   obtain ⟨-,rfl,rfl⟩:=e
   exact CRi.rowAt hok
  | sh=>
   simp at e
   obtain ⟨-,rfl,rfl⟩:=e
   exact hok.1.rowAt
  | dp n=>simp [St.WG,hc] at hdp
  | dd n i j=>simp at e
  | ws=>simp at e
  | fr=>simp at e
 | sub o s c lo hi=>
  simp only [St.view] at e
  obtain ⟨⟨ob,m,s',t',y⟩,hc,e⟩:=Option.bind_eq_some_iff.1 e
  obtain ⟨hL,hx,hs⟩:=eF hc
  simp only at hs hL hx;subst hs
  obtain ⟨u,hu,hok,iq⟩:=h.cellAt hc
  obtain ⟨ob2,hL2,_,hval⟩:=hr
  rw [hL] at hL2;cases hL2
  cases m with
  | gone=>simp at e
  | imm=>
   cases y with
   | row zz es'=>
    simp at e
    obtain ⟨-,rfl,rfl,rfl⟩:=e
    obtain ⟨h1,h2,a0,cap,h3,h4⟩:=hval _ hx rfl (by intro e;cases e) _ _ rfl
    rw [hu] at h3;cases h3
    exact Ot.part (CRi.rowAt hok) h1 h2 h4
   | _=>simp at e
  | sh=>
   cases y with
   | row zz es'=>
    simp at e
    obtain ⟨-,rfl,rfl,rfl⟩:=e
    obtain ⟨h1,h2,a0,cap,h3,h4⟩:=hval _ hx rfl (by intro e;cases e) _ _ rfl
    rw [hu] at h3;cases h3
    exact Ot.part hok.1.rowAt h1 h2 h4
   | _=>simp at e
  | dp n=>simp at e
  | ws=>simp at e
  | fr=>simp at e
  | dd n i j=>simp at e
theorem CRi.flat {Fp Fp':Nat→Prop} {as:List AV} {us:List Value} (hs:∀x∈as,x.OH=true) (h:CRi w Fp as us):CRi w Fp' as us:=by
 induction h with
 | nil=>exact .nil
 | sc hp _ ih=>exact .sc hp (ih fun x hx=>hs x (by simp [hx]))
 | gy _ ih=>have:=hs _ (List.mem_cons_self ..);simp [AV.OH] at this
 | row _ _ _ _ _ _ _ _ _=>have:=hs _ (List.mem_cons_self ..);simp [AV.OH] at this
 | cp _ _ _ _ _ _ _=>have:=hs _ (List.mem_cons_self ..);simp [AV.OH] at this
 | clo _ _ _ _=>have:=hs _ (List.mem_cons_self ..);simp [AV.OH] at this
theorem CRi.fK {ks:List (Option Nat)} {t:Nat} {es:List AV} {us:List Value} (h:CRi w (W.F (tg t)) (es.flatMap AV.cells) us):CRi w (W.F (tg (fK ks t es))) (es.flatMap AV.cells) us:=by
 unfold Sim.fK
 cases ks.any (·.isSome) with
 | true=>exact h
 | false=>
 cases hf:es.all AV.flat with
 | false=>exact h
 | true=>
  refine h.flat fun x hx=>?_
  obtain ⟨e,he,hx⟩:=List.mem_flatMap.1 hx
  have:=List.all_eq_true.1 hf e he
  exact List.all_eq_true.1 this x hx
theorem WM (h:Rel B st a w W) {sz t:Nat} {es:List AV} {r:RV} {v:Value} (hr:RR w W st.L r v) (e:st.elems sz r=some (t,es)):
 ∃us,CRi w (W.F (tg t)) (es.flatMap AV.cells) us∧(∀x∈es,x.cells.length=sz)∧(Builtin.lenOf v).run P w= .ok es.length w∧∀w':World,(∀(b:Nat) o,w.heap[b]?=some o→w'.heap[b]?=some o)→(Builtin.firstCells sz es.length v).run P w'= .ok us.toArray w':=by
 have row:∀{z:Nat} {bo:Bool},st.WG r=false→st.view sz r=some (bo,t,.row z es)→z=sz→
  ∃us,CRi w (W.F (tg t)) (es.flatMap AV.cells) us∧(∀x∈es,x.cells.length=sz)∧(Builtin.lenOf v).run P w= .ok es.length w∧∀w':World,(∀(b:Nat) o,w.heap[b]?=some o→w'.heap[b]?=some o)→(Builtin.firstCells sz es.length v).run P w'= .ok us.toArray w':=by
  intro z bo hdp hv hz
  subst hz
  rcases adh h hdp hr hv with ⟨rfl,x,rfl⟩ | ⟨b,off,cap,arr,T,fr,us,rest,rfl,hh,hs,hd,hc,_⟩
  ·exact ⟨[],.nil,by simp,by simp [Builtin.lenOf],fun w' _=>by cases x<;>simp [Builtin.firstCells,loadCells,loadCellsFrom]⟩
  ·refine ⟨us,hc,hs,by simp [Builtin.lenOf],fun w' hw'=>?_⟩
   have hl:=hc.length
   rw [flat_length hs] at hl
   unfold Builtin.firstCells
   simp only
   rw [hl]
   refine run_loadCells_list (P:=P) (w:=w') _ us fun j u hj=>?_
   rw [kK,KJ (hw' _ _ hh)]
   have hjl:j<us.length:=by
    rcases Nat.lt_or_ge j us.length with h' | h'
    ·exact h'
    ·rw [List.getElem?_eq_none h'] at hj;cases hj
   have:(arr.toList.drop off)[j]?=some u:=by rw [hd,List.getElem?_append_left hjl];exact hj
   rw [List.getElem?_drop] at this
   simpa using this
 unfold St.elems at e
 cases hst:r.ac5 with
 | some s=>
  rw [hst] at e
  simp only at e
  split at e
  ·rename_i hz
   have hz:=beq_eq hz
   cases e
   subst hz
   cases r with
   | im t0 y=>
    have hy:y= .sc (.string s):=by
     unfold RV.ac5 at hst
     split at hst
     ·rename_i he;cases he;cases hst;rfl
     ·cases hst
    subst hy
    cases hr with
    | sc hp _=>
     have hall:∀(l:List UInt8),CRi w (W.F (tg 0)) ((l.map fun b=>AV.sc (.int .u8 b.toNat)).flatMap AV.cells) (l.map fun b=>Value.int .u8 b.toNat):=by
      intro l
      induction l with
      | nil=>exact .nil
      | cons b l ih=>exact .sc rfl ih
     refine ⟨_,hall _,?_,?_,?_⟩
     ·intro x hx
      obtain ⟨b,_,rfl⟩:=List.mem_map.1 hx
      rfl
     ·show Result.ok s.size w=_
      rw [List.length_map];rfl
     ·intro w' _
      have:s.extract 0 s.data.toList.length=s:=by
       simp
      simp only [Builtin.firstCells,List.length_map,this]
      rw [show (s.data.map fun b=>Value.int .u8 b.toNat)=(s.data.toList.map fun b=>Value.int .u8 b.toNat).toArray from by rw [←Array.toList_map]]
      rfl
   | _=>simp [RV.ac5] at hst
  ·cases e
 | none=>
  rw [hst] at e
  simp only at e
  split at e
  ·cases e
  rename_i hdp
  have hdp:st.WG r=false:=by simpa using hdp
  obtain ⟨⟨bo,t0,y⟩,hv,e⟩:=Option.bind_eq_some_iff.1 e
  cases y with
  | row z es0=>
   simp only at e
   split at e
   ·rename_i hz
    cases e
    exact row hdp hv (beq_eq hz)
   ·cases e
  | _=>simp at e
theorem Rel.drawn (h:Rel B st a w W) (n:Nat):Rel B st a {w with drawn:=n} W:=
 h.step (hio:=⟨rfl,rfl⟩) (L':=st.L) (w':={w with drawn:=n}) (W':=W) (fun _ _ hb=>hb) h.f01 h.f12 (fun _ _ hb=> .inl hb) h.qF h.flt h.olt (fun _ _=>rfl) (Ext.refl _ _) (Par.same (fun _=>rfl) fun _=>rfl)
  (fun o ob hL=>(h.iJ o ob hL).keep (fun _ _ hb=>⟨hb,rfl⟩) rfl rfl (fun _=>rfl) (fun _=>rfl) (fun _ _ hb=>⟨hb,rfl⟩) (fun hm=>⟨rfl,fun hf=>by
    obtain ⟨arr,T,fr,h1,h2,h3,h4,h5⟩:=(h.iJ o ob hL).mem hm
    exact h4 hf⟩) (TrK.of fun _ _ hb=>⟨hb,rfl⟩)) (fun _ _ _=>rfl) (Nat.le_refl _) (TrK.of fun _ _ hb=>⟨hb,rfl⟩) (fun b hb=> .inl hb) (fun b x hb=> .inl ⟨⟨x,hb⟩,.inl rfl⟩)
omit [Lim] in
theorem TS (n:Nat):∀(r c:Nat),c<n→Builtin.growBy n r c≤n+(n+768) / 4
 | 0,c,h=>by simp only [Builtin.growBy];omega
 | r+1,c,h=>by
  simp only [Builtin.growBy]
  split
  ·omega
  ·by_cases h2:c+(c+768) / 4<n
   ·exact TS n r _ h2
   ·cases r with
    | zero=>simp only [Builtin.growBy];omega
    | succ r=>
     simp only [Builtin.growBy]
     rw [if_pos (by omega)];omega
omit [Lim] in
theorem PR {need cap:Nat} (h:cap<need):Builtin.nextslicecap need cap≤2*need:=by
 unfold Builtin.nextslicecap
 split
 ·omega
 ·split
  ·omega
  ·have:=TS need 4 cap h;omega
omit [Lim] in
theorem GK (z:Array Value) (n:Nat):(Builtin.zeroCells z n).size=n*z.size:=by simp [Builtin.zeroCells]
theorem Yn (h:Rel B st a w W) {sT xT ty e:TypeId} {inf:TypeInfo} {z:Value} {sz:Nat} (hs:P.underlying sT=some (.slice e)) (hi:P.info? e=some inf) (hz:inf.zero=some z) (hzs:z.cells.size=inf.size) (hsz:inf.size=sz)
 (hdx:(∃e2,P.underlying xT=some (.slice e2))∨P.underlying xT=some .string) {k t t2:Nat} {es ys:List AV} {v y:Value} {us:List Value} (hv:mg w W k ⟨.sh,t,.row sz es⟩ v)
 (hy:CRi w (W.F (tg t2)) (ys.flatMap AV.cells) us) (hys:∀x∈ys,x.cells.length=sz) (hyl:(Builtin.lenOf y).run P w= .ok ys.length w) (hyc:∀w':World,(∀(b:Nat) o,w.heap[b]?=some o→w'.heap[b]?=some o)→(Builtin.firstCells sz ys.length y).run P w'= .ok us.toArray w')
 (hb0:0<inf.bytes) (hroom:(es.length+ys.length) *inf.bytes≤140737488355328):
 ∃u w' W',(Builtin.append_ #[sT,xT] ty #[v,y]).run P w= .ok u w'∧Rel B st a w' W'∧mg w' W' k ⟨.sh,Nat.max t t2,.row sz (es++ys)⟩ u∧
  (∀t b,W.F t b→W'.F t b)∧(∀b j,j≠k→W.own b=some (.det j)→W'.own b=some (.det j)∧w'.heap[b]?=w.heap[b]?):=by
 have hF1:∀b,W.F (tg t) b→W.F (tg (Nat.max t t2)) b:=fun b hb=>h.fle (Nat.le_max_left _ _) hb
 have hF2:∀b,W.F (tg t2) b→W.F (tg (Nat.max t t2)) b:=fun b hb=>h.fle (Nat.le_max_right _ _) hb
 have hul:=hy.length
 rw [flat_length hys] at hul
 obtain ⟨sz',es',ob,he,hrow,hob⟩:=hv
 injection he with he1 he2
 subst he1 he2
 have alf:es.length+ys.length≤140737488355328:=Nat.le_trans (Nat.le_mul_of_pos_right _ hb0) hroom
 have key:∀(base:Option Addr) (cap:Nat),v= .slice base es.length cap→(Builtin.append_ #[sT,xT] ty #[v,y]).run P w=
  if es.length+ys.length≤cap then
   (match base with
     | some a=>((storeCells (a.add (es.length*sz)) us).run P w).andThen fun _ w'=> .ok (.slice base (es.length+ys.length) cap) w'
     | none=> .ok (.slice base (es.length+ys.length) cap) w)
  else
   ((Builtin.firstCells sz es.length v).run P {w with drawn:=w.drawn+1}).andThen fun old w1=>((Builtin.firstCells sz ys.length y).run P w1).andThen fun new w2=>
     .ok (.slice (some ⟨w2.heap.size,0,none⟩) (es.length+ys.length) ((Question.appendCap (es.length+ys.length) cap e).cut (w.tape w.drawn (.appendCap (es.length+ys.length) cap e))))
      {w2 with heap:=w2.heap.push (.cells (old++new++Builtin.zeroCells z.cells ((Question.appendCap (es.length+ys.length) cap e).cut (w.tape w.drawn (.appendCap (es.length+ys.length) cap e)) - (es.length+ys.length))) e)}:=by
  intro base cap hv
  subst hv
  have hcap:¬es.length+ys.length≤cap→¬(Builtin.nextslicecap (es.length+ys.length) cap*inf.bytes>2 ^ 48):=by
   intro hc
   have h1:=PR (need:=es.length+ys.length) (cap:=cap) (by omega)
   have h2:=Nat.mul_le_mul_right inf.bytes h1
   have h3:2* (es.length+ys.length) *inf.bytes=2* ((es.length+ys.length) *inf.bytes):=by rw [Nat.mul_assoc]
   have h4:(2:Nat) ^ 48=281474976710656:=by decide
   omega
  have hmax:¬((es.length+ys.length:Nat):Int) >IntKind.i64.max:=by
   have:IntKind.i64.max=9223372036854775807:=by decide
   rw [this];omega
  have adi:¬(9223372036854775807:Int) < (es.length:Int)+(ys.length:Int):=by omega
  by_cases hc:es.length+ys.length≤cap
  ·rw [if_pos hc]
   rcases hdx with ⟨e2,hdx⟩ | hdx<;>cases base<;>
    simp [Builtin.append_,cO hs,cO hdx,nH hi,hsz,hyl,hc,hyc w (fun _ _ h=>h)]
  ·rw [if_neg hc]
   have hcap':¬281474976710656<Builtin.nextslicecap (es.length+ys.length) cap*inf.bytes:=by
    have:=hcap hc
    simpa using this
   rcases hdx with ⟨e2,hdx⟩ | hdx<;>
    simp [Builtin.append_,cO hs,cO hdx,nH hi,hsz,hyl,hc,Eg hi,adi,hcap',Question.forced,zeroValue,hz,newRow]
 have aga:∀{Fp:Nat→Prop} {us0:List Value},CRi w (W.F (tg t)) (es.flatMap AV.cells) us0→CRi w (W.F (tg (Nat.max t t2))) ((es++ys).flatMap AV.cells) (us0++us):=by
  intro Fp us0 hc
  rw [List.flatMap_append]
  exact (hc.mono fun b hb=>⟨hF1 b hb,rfl⟩).append (hy.mono fun b hb=>⟨hF2 b hb,rfl⟩)
 have grow:∀(base:Option Addr) (cap:Nat) (us0:List Value),v= .slice base es.length cap→¬es.length+ys.length≤cap→(∀x∈es,x.cells.length=sz)→CRi w (W.F (tg t)) (es.flatMap AV.cells) us0→
  (Builtin.firstCells sz es.length v).run P {w with drawn:=w.drawn+1}= .ok us0.toArray {w with drawn:=w.drawn+1}→
  ∃u w' W',(Builtin.append_ #[sT,xT] ty #[v,y]).run P w= .ok u w'∧Rel B st a w' W'∧mg w' W' k ⟨.sh,Nat.max t t2,.row sz (es++ys)⟩ u∧
  (∀t b,W.F t b→W'.F t b)∧(∀b j,j≠k→W.own b=some (.det j)→W'.own b=some (.det j)∧w'.heap[b]?=w.heap[b]?):=by
  intro base cap us0 hv hc hs0 hcr hold
  have hk:=key base cap hv
  rw [if_neg hc,hold] at hk
  simp only [Result.andThen_ok] at hk
  rw [hyc {w with drawn:=w.drawn+1} (fun _ _ h=>h)] at hk
  simp only [Result.andThen_ok] at hk
  have Yo:=hcr.length
  rw [flat_length hs0] at Yo
  have hge:es.length+ys.length≤(Question.appendCap (es.length+ys.length) cap e).cut (w.tape w.drawn (.appendCap (es.length+ys.length) cap e)):=by
   simp only [Question.cut];omega
  generalize hN:(Question.appendCap (es.length+ys.length) cap e).cut (w.tape w.drawn (.appendCap (es.length+ys.length) cap e))=N at hk hge
  have harr:us0.toArray++us.toArray++Builtin.zeroCells z.cells (N - (es.length+ys.length))=((us0++us)++(Builtin.zeroCells z.cells (N - (es.length+ys.length))).toList).toArray:=by
   simp
  rw [harr] at hk
  have hc2:CRi {w with drawn:=w.drawn+1} (W.F (tg (Nat.max t t2))) ((es++ys).flatMap AV.cells) (us0++us):=by
   have hc1:=aga (Fp:=fun _=>True) hcr
   have hm:∀b,W.F (tg (Nat.max t t2)) b→W.F (tg (Nat.max t t2)) b∧({w with drawn:=w.drawn+1}:World).heap[b]?=w.heap[b]?:=fun b hb=>⟨hb,rfl⟩
   exact hc1.mono hm
  have hp:=JD (h.drawn (w.drawn+1)) (sz:=sz) (t:=Nat.max t t2) (cap:=N) (es:=es++ys) (us:=us0++us) (rest:=(Builtin.zeroCells z.cells (N - (es.length+ys.length))).toList) k e
   (fun x hx=>by rcases List.mem_append.1 hx with hx | hx;exact hs0 x hx;exact hys x hx)
   hc2 (by simpa using hge) (by
    simp only [List.length_append,Array.length_toList,GK,hzs,hsz]
    rw [←Yo,←hul,←Nat.add_mul,←Nat.add_mul]
    exact Nat.mul_le_mul_right _ (by omega))
  refine ⟨_,_,_,hk,hp.1,?_,fun _ _ hb=>hb,fun b j hj hb=>?_⟩
  ·have:=hp.2
   simpa using this
  ·have hlt:=(h.olt b _ hb).1
   exact ⟨by rw [BD _ _ (by show b≠w.heap.size;omega)];exact hb,wC hlt⟩
 rcases hrow with ⟨hn,⟨x0,rfl⟩,rfl⟩ | ⟨b,off,cap,arr,T,fr,us0,rest,rfl,rfl,hh,hfr,hs0,hd,hcr,hlc,hrm⟩
 ·subst hn
  by_cases hm:ys=[]
  ·subst hm
   have hk:=key x0 0 rfl
   have hu0:us=[]:=List.length_eq_zero_iff.1 (by simpa using hul.symm)
   simp only [List.length_nil,Nat.add_zero,Nat.le_refl,if_true,hu0,storeCells] at hk
   have hk:(Builtin.append_ #[sT,xT] ty #[.slice x0 0 0,y]).run P w= .ok (.slice x0 0 0) w:=by
    cases x0 with
    | none=>exact hk
    | some a=>exact hk
   exact ⟨_,w,W,hk,h,⟨sz,[],none,rfl,.inl ⟨rfl,⟨_,rfl⟩,rfl⟩,fun b hb=>by cases hb⟩,fun _ _ hb=>hb,fun b j _ hb=>⟨hb,rfl⟩⟩
  ·refine grow x0 0 [] rfl (by have:=List.length_pos_iff.2 hm;simp;omega) (by simp) .nil ?_
   cases x0<;>simp [Builtin.firstCells,loadCells,loadCellsFrom]
 ·have Yo:=hcr.length
  rw [flat_length hs0] at Yo
  by_cases hc:es.length+ys.length≤cap
  ·have hk:=key (some ⟨b,off,none⟩) cap rfl
   rw [if_pos hc] at hk
   simp only [kK] at hk
   have hsum:(es.length+ys.length) *sz≤cap*sz:=Nat.mul_le_mul_right _ hc
   rw [Nat.add_mul] at hsum
   obtain ⟨w',jR,h1,h2,h3,h4,h5,hio⟩:=mF (P:=P) us 0 (b:=b) (off:=off+es.length*sz) hh hfr hy.uZ (by omega)
   rw [h1] at hk
   simp only [Result.andThen_ok] at hk
   have hown:=hob b rfl
   have hsz':jR.size=arr.size:=by
    have:=congrArg List.length h3
    rw [gV (by simp;omega)] at this
    simpa using this
   have hF:∀t b',W.F (tg t) b'→W.F (tg t) b'∧w'.heap[b']?=w.heap[b']?:=fun t b' hb=>⟨hb,h4 b' fun e=>by
    have:=h.qF b' (h.f2 hb)
    rw [e,hown] at this;cases this⟩
   refine ⟨_,w',W,hk,h.write hown ⟨jR,T,fr,h2,by rw [hsz'];exact hfr⟩ hio h5 h4,⟨sz,es++ys,some b,rfl,.inr ⟨b,off,cap,jR,T,fr,us0++us,rest.drop us.length,by simp,rfl,h2,?_,?_,?_,?_,?_,?_⟩,fun b' hb'=>by cases hb';exact hown⟩,fun _ _ hb=>hb,fun b' j hj hb'=>⟨hb',h4 b' fun e=>?_⟩⟩
   ·rw [hsz'];exact hfr
   ·intro x hx
    rcases List.mem_append.1 hx with hx | hx
    ·exact hs0 x hx
    ·exact hys x hx
   ·rw [h3]
    apply List.ext_getElem?
    intro j
    have hdj:∀j,arr.toList[off+j]?=(us0++rest)[j]?:=fun j=>by rw [←hd,List.getElem?_drop]
    rw [List.getElem?_drop,mD (by simp;omega)]
    by_cases j1:j<us0.length
    ·rw [if_pos (by omega),hdj,List.getElem?_append_left j1,List.getElem?_append_left (by simp;omega),List.getElem?_append_left j1]
    ·rw [if_neg (by omega)]
     by_cases j2:j<us0.length+us.length
     ·rw [if_pos (by omega),List.getElem?_append_left (by simp;omega),List.getElem?_append_right (by omega)]
      congr 1;omega
     ·rw [if_neg (by omega),hdj,List.getElem?_append_right (by omega),List.getElem?_append_right (by simp;omega),List.getElem?_drop]
      congr 1;simp;omega
   ·exact (aga (Fp:=fun _=>True) hcr).mono fun b' hb'=>hF _ _ hb'
   ·simpa using hc
   ·rw [hsz'];exact hrm
   ·rw [e,hown] at hb';cases hb';exact hj rfl
  ·refine grow (some ⟨b,off,none⟩) cap us0 rfl hc hs0 hcr ?_
   unfold Builtin.firstCells
   simp only
   rw [Yo]
   refine run_loadCells_list (P:=P) (w:={w with drawn:=w.drawn+1}) _ us0 fun j u hj=>?_
   rw [kK,KJ (w:={w with drawn:=w.drawn+1}) hh]
   have hjl:j<us0.length:=by
    rcases Nat.lt_or_ge j us0.length with h' | h'
    ·exact h'
    ·rw [List.getElem?_eq_none h'] at hj;cases hj
   have:(arr.toList.drop off)[j]?=some u:=by rw [hd,List.getElem?_append_left hjl];exact hj
   rw [List.getElem?_drop] at this
   simpa using this
end
end
end Go.Sim
