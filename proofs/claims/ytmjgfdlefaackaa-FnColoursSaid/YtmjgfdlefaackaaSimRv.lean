/- Functions of the library that write into a row in place, by contracts: slices.Sort, slices.Compact, slices.Delete at numbers. Conditions: none. -/
import Derived.Test.YtmjgfdlefaackaaSimRk
import Derived.Test.YtmjgfdlefaackaaSimPt
import Derived.Sort.Row
import Derived.Sort.Grow
namespace Go.Sim
variable [Lim]
open Go.Pw
set_option linter.unusedSimpArgs false
set_option linter.unusedVariables false
section
variable {P:Program} {cfg:Cfg} {B:Base} {st:St} {a:Act} {w w':World} {W:Wit} {f:FuncId}
theorem Rel.TR (h:Rel B st a w W) {b:Nat} (hio:w'.os=w.os∧w'.output=w.output) {k:Nat} (hb:W.own b=some (.det k)) (hne:∀b',b'≠b→b'<w.heap.size→w'.heap[b']?=w.heap[b']?) (hsz:w.heap.size≤w'.heap.size)
 (hun:oZ w' b):Rel B st a w' W:=by
 have hmem:∀b' x,W.own b'=some x→x≠ .det k→w'.heap[b']?=w.heap[b']?:=fun b' x hx hn=>hne b' (fun e=>by rw [e,hb] at hx;cases hx;exact hn rfl) (h.olt b' x hx).1
 have hF:∀t b',W.F (tg t) b'→W.F (tg t) b'∧w'.heap[b']?=w.heap[b']?:=fun t b' hx=>⟨hx,hne b' (fun e=>by
  have:=h.jD b' (h.f2 hx)
  rw [e,hb] at this;cases this) (h.flt b' (h.f2 hx))⟩
 have hD:TrK w w' W W:=TrK.of fun x b' hx=>⟨hx,hmem b' _ hx fun e=>by cases e⟩
 have:=h.step (L':=st.L) (w':=w') (W':=W) hio (fun _ _ hb=>hb) h.f01 h.f12 (fun _ _ hb=> .inl hb) h.jD (fun b hb=>Nat.lt_of_lt_of_le (h.flt b hb) hsz)
  (fun b x hb=>⟨Nat.lt_of_lt_of_le (h.olt b x hb).1 hsz,(h.olt b x hb).2⟩) (fun b hb=>(hF 2 b hb).2) (Ext.refl _ _) (fun o ob hL hi=>⟨ob,hL,hi,rfl,rfl,fun _=>rfl⟩)
  (fun o ob hL=>(h.dA o ob hL).keep hF rfl rfl (fun _=>rfl) (fun _=>rfl) (fun c b hb=>⟨hb,hmem b _ hb fun e=>by cases e⟩) (fun hm=>by
    obtain ⟨arr,T,fr,k1,k2,k3,k4,k5⟩:=(h.dA o ob hL).mem hm
    cases hf:ob.fz with
    | false=>exact ⟨hmem _ _ (k4 hf) (fun e=>by cases e),fun _=>k4 hf⟩
    | true=>exact ⟨(hF 0 _ (k5 hf)).2,fun e=>by cases e⟩) hD)
  (fun b' hlt hl=>hne b' (fun e=>by
    subst e
    rcases (h.olt b' _ hb).2 with h1 | h1
    ·omega
    ·exact hl h1) (Nat.lt_of_lt_of_le hlt h.size)) hsz hD (fun b hb=> .inl hb) (fun b' x hx=>by
    by_cases e:b'=b
    ·subst e;exact .inr hun
    ·exact .inl ⟨⟨x,hx⟩,.inl (hne b' e (h.olt b' x hx).1)⟩)
 exact this
theorem Rel.TS (h:Rel B st a w W) {o s t sz:Nat} {ob:Obj} {es es':List AV} (hL:st.L o=some ob) (hcs:ob.cs=[⟨.sh,s,t,.row sz es⟩]) (hm:ob.mem=false) {b:Nat} (hfp:W.fp o 0=some b) {v:Value} (hv:(W.vals o)[0]?=some v)
 (hlen:es.length=es'.length) (hio:w'.os=w.os∧w'.output=w.output) (hne:∀b',b'≠b→b'<w.heap.size→w'.heap[b']?=w.heap[b']?) (hsz:w.heap.size≤w'.heap.size) (hun:oZ w' b)
 (hnew:gy w' (W.F (tg t)) sz es' v (some b)):Rel B (st.setObj o {ob with cs:=[⟨.sh,s,t,.row sz es'⟩]}) a w' W:=by
 have bM:=h.dA o ob hL
 have hx0:ob.cs[0]?=some ⟨.sh,s,t,.row sz es⟩:=by rw [hcs];rfl
 have hbo:W.own b=some (.cell o 0):=(bM.cells 0 _ v hx0 hv).2 b hfp
 have hmem:∀b' x,W.own b'=some x→x≠ .cell o 0→w'.heap[b']?=w.heap[b']?:=fun b' x hx hn=>hne b' (fun e=>by rw [e,hbo] at hx;cases hx;exact hn rfl) (h.olt b' x hx).1
 have hF:∀t b',W.F (tg t) b'→W.F (tg t) b'∧w'.heap[b']?=w.heap[b']?:=fun t b' hx=>⟨hx,hne b' (fun e=>by
  have:=h.jD b' (h.f2 hx)
  rw [e,hbo] at this;cases this) (h.flt b' (h.f2 hx))⟩
 have hD:TrK w w' W W:=TrK.of fun x b' hx=>⟨hx,hmem b' _ hx fun e=>by cases e⟩
 let ob':Obj:={ob with cs:=[⟨.sh,s,t,.row sz es'⟩]}
 have hE:Ext st.L W (st.setObj o ob').L W:=by
  intro o' obx hL'
  by_cases eo:o'=o
  ·subst eo
   rw [hL] at hL';cases hL'
   refine ⟨ob',by simp only [St.setObj,upd_same],Nat.le_refl _,Nat.le_refl _,fun q x' hx'=> .inr ?_,fun _=>⟨rfl,rfl⟩⟩
   cases q with
   | zero=>
    have hx':some (⟨.sh,s,t,.row sz es'⟩:Cell)=some x':=hx'
    cases hx'
    refine ⟨_,hx0,rfl,rfl,fun _=>⟨(by intro e;cases e),fun sz' es'' he'=>?_⟩,jI.same rfl⟩
    cases he'
    exact ⟨es,rfl,hlen⟩
   | succ q=>cases hx'
  ·exact ⟨obx,by simp only [St.setObj,upd_ne _ _ eo];exact hL',Nat.le_refl _,Nat.le_refl _,fun q x hx=> .inr ⟨x,hx,rfl,rfl,fun hm=>⟨hm,fun _ es he=>⟨es,he,rfl⟩⟩,jI.same rfl⟩,fun _=>⟨rfl,rfl⟩⟩
 have:=h.step (L':=(st.setObj o ob').L) (w':=w') (W':=W) hio (fun _ _ hb=>hb) h.f01 h.f12 (fun _ _ hb=> .inl hb) h.jD (fun b hb=>Nat.lt_of_lt_of_le (h.flt b hb) hsz)
  (fun b x hb=>⟨Nat.lt_of_lt_of_le (h.olt b x hb).1 hsz,(h.olt b x hb).2⟩) (fun b hb=>(hF 2 b hb).2) hE (Par.set hL rfl rfl (fun _=>rfl) fun _ _=>rfl)
  (fun o' obx hL'=>by
    by_cases eo:o'=o
    ·subst eo
     simp only [St.setObj,upd_same] at hL'
     cases hL'
     refine {len:=by have:=bM.len;rw [hcs] at this;exact this,cells:=fun q x' v' hx' hv'=>?_,mem:=(fun hmm=>by rw [show ob'.mem=ob.mem from rfl,hm] at hmm;cases hmm),fz:=fun hf=>?_,ctr:=fun x hx=>?_}
     ·cases q with
      | zero=>
       have hx':some (⟨.sh,s,t,.row sz es'⟩:Cell)=some x':=hx'
       cases hx'
       rw [hv] at hv';cases hv'
       exact ⟨by rw [hfp];exact hnew,fun b' hb'=>by rw [hfp] at hb';cases hb';exact hbo⟩
      | succ q=>cases hx'
     ·have:=bM.fz hf _ (by rw [hcs];exact List.mem_cons_self ..)
      rcases this with e | e<;>cases e
     ·have hx:x=⟨.sh,s,t,.row sz es'⟩:=List.mem_singleton.1 hx
      subst hx
      exact bM.ctr ⟨.sh,s,t,.row sz es⟩ (by rw [hcs];exact List.mem_cons_self ..)
    ·simp only [St.setObj,upd_ne _ _ eo] at hL'
     exact (h.dA o' obx hL').keep hF rfl rfl (fun _=>rfl) (fun _=>rfl) (fun c b hb=>⟨hb,hmem b _ hb fun e=>eo (by cases e;rfl)⟩) (fun hm=>by
      obtain ⟨arr,T,fr,k1,k2,k3,k4,k5⟩:=(h.dA o' obx hL').mem hm
      cases hf:obx.fz with
      | false=>exact ⟨hmem _ _ (k4 hf) (fun e=>by cases e),fun _=>k4 hf⟩
      | true=>exact ⟨(hF 0 _ (k5 hf)).2,fun e=>by cases e⟩) hD)
  (fun b' hlt hl=>hne b' (fun e=>by
    subst e
    rcases (h.olt b' _ hbo).2 with h1 | h1
    ·omega
    ·exact hl h1) (Nat.lt_of_lt_of_le hlt h.size)) hsz hD (fun b hb=> .inl hb) (fun b' x hx=>by
    by_cases e:b'=b
    ·subst e;exact .inr hun
    ·exact .inl ⟨⟨x,hx⟩,.inl (hne b' e (h.olt b' x hx).1)⟩)
 exact this
end
def vI (n:Int):Value:= .int .i64 n
theorem CRi.ints {w:World} {Fp:Nat→Prop}:∀(zs:List Int) {us:List Value},CRi w Fp ((zs.map eI).flatMap AV.cells) us→us=zs.map vI
 | [],us,h=>by cases h;rfl
 | z::zs,us,h=>by
  have h:CRi w Fp (.sc (.int .i64 z)::(zs.map eI).flatMap AV.cells) us:=h
  cases h with
  | sc _ h2=>rw [CRi.ints zs h2];rfl
theorem CRi.ofInts {w:World} {Fp:Nat→Prop}:∀(zs:List Int),CRi w Fp ((zs.map eI).flatMap AV.cells) (zs.map vI)
 | []=> .nil
 | z::zs=>CRi.sc rfl (CRi.ofInts zs)
omit [Lim] in
theorem DN (zs:List Int):∀e∈zs.map eI,e.cells.length=1:=by
 intro e he
 obtain ⟨z,_,rfl⟩:=List.mem_map.1 he
 rfl
omit [Lim] in
theorem Fv {w:World} {b off:Nat} {arr:Array Value} {T:TypeId} {fr:Nat×Nat} {zs:List Int} {rest:List Value} (hh:w.heap[b]?=some (.cells arr T fr)) (hf:∀i<arr.size,¬(fr.1≤i∧i<fr.2)) (hd:arr.toList.drop off=zs.map vI++rest):
 Go.Sort.Holds (Value.int .i64) w b off zs.toArray:=by
 intro j hj
 have hj:j<zs.length:=by simpa using hj
 have hg:arr[off+j]?=some (vI zs[j]):=by
  have:(arr.toList.drop off)[j]?=some (vI zs[j]):=by
   rw [hd,List.getElem?_append_left (by rw [List.length_map];exact hj),List.getElem?_map,List.getElem?_eq_getElem hj];rfl
  rw [List.getElem?_drop] at this
  simpa using this
 have hlt:off+j<arr.size:=by
  rcases Nat.lt_or_ge (off+j) arr.size with h | h
  ·exact h
  ·rw [Array.getElem?_eq_none h] at hg;cases hg
 refine ⟨?_,?_⟩
 ·unfold World.cell?
  simp only [hh]
  rw [if_neg (by decide),hg]
  congr 1
  show vI zs[j]=Value.int .i64 (zs.toArray[j]!)
  have:zs.toArray[j]! =zs[j]:=by simp [hj]
  rw [this];rfl
 ·unfold World.frozen?
  simp only [hh]
  have:=hf (off+j) hlt
  simp only [Bool.and_eq_false_iff,decide_eq_false_iff_not]
  by_cases c:fr.1≤off+j
  ·right;exact fun h=>this ⟨c,h⟩
  ·left;exact c
omit [Lim] in
theorem BF {w:World} {b off:Nat} {arr:Array Value} {T:TypeId} {fr:Nat×Nat} {zs ys:List Int} {rest:List Value} (hh:w.heap[b]?=some (.cells arr T fr)) (hd:arr.toList.drop off=zs.map vI++rest) (hl:ys.length=zs.length) (n:Nat) (os:Array Go.Obj):
 let w':=Go.Sort.grow (Go.Sort.putRow (Value.int .i64) (Go.Sort.ahead w n) b off ys.toArray) os
 (w'.os=w.os∧w'.output=w.output)∧(∀b',b'≠b→b'<w.heap.size→w'.heap[b']?=w.heap[b']?)∧w.heap.size≤w'.heap.size∧∃dY,w'.heap[b]?=some (.cells dY T fr)∧dY.size=arr.size∧dY.toList.drop off=ys.map vI++rest:=by
 intro w'
 have hb:b<w.heap.size:=by
  rcases Nat.lt_or_ge b w.heap.size with h | h
  ·exact h
  ·rw [Array.getElem?_eq_none h] at hh;cases hh
 have hw:w'.heap=w.heap.modify b (Go.Sort.onCells (Go.Sort.putCells (Value.int .i64) off ys.toArray))++os:=rfl
 refine ⟨⟨rfl,rfl⟩,fun b' hne hlt=>?_,?_,Go.Sort.putCells (Value.int .i64) off ys.toArray arr,?_,?_,?_⟩
 ·rw [hw,Array.getElem?_append_left (by rw [Array.size_modify];exact hlt),Array.getElem?_modify,if_neg (fun e=>hne e.symm)]
 ·rw [hw,Array.size_append,Array.size_modify];omega
 ·rw [hw,Array.getElem?_append_left (by rw [Array.size_modify];exact hb),Array.getElem?_modify,if_pos rfl,hh];rfl
 ·unfold Go.Sort.putCells;simp
 ·apply List.ext_getElem?
  intro k
  have hold:arr[off+k]?=(zs.map vI++rest)[k]?:=by rw [←hd,List.getElem?_drop];simp
  rw [List.getElem?_drop,Array.getElem?_toList]
  unfold Go.Sort.putCells
  rw [Array.getElem?_mapIdx,hold]
  by_cases c:k<ys.length
  ·rw [List.getElem?_append_left (by rw [List.length_map];omega),List.getElem?_append_left (by rw [List.length_map];exact c),List.getElem?_map,List.getElem?_map,List.getElem?_eq_getElem (by omega:k<zs.length),List.getElem?_eq_getElem c]
   simp only [Option.map_some]
   rw [if_pos ⟨by omega,by simpa using c⟩]
   congr 1
   show Value.int .i64 (ys.toArray[off+k - off]!)=vI ys[k]
   have:ys.toArray[off+k - off]! =ys[k]:=by simp [c]
   rw [this];rfl
  ·rw [List.getElem?_append_right (by rw [List.length_map];omega),List.getElem?_append_right (by rw [List.length_map];omega),List.length_map,List.length_map,hl]
   cases h:rest[k - zs.length]? with
   | none=>rfl
   | some x=>
    simp only [Option.map_some]
    rw [if_neg (by simp;omega)]
def intOf:AV→Option Int
 | .sc (.int .i64 n)=>some n
 | _=>none
def intsOf:List AV→Option (List Int)
 | []=>some []
 | a::as=>(intOf a).bind fun z=>(intsOf as).map (z::·)
omit [Lim] in
theorem JB {a:AV} {z:Int} (h:intOf a=some z):a=eI z:=by
 unfold intOf at h
 split at h
 ·cases h;rfl
 ·cases h
omit [Lim] in
theorem xI:∀{es:List AV} {zs:List Int},intsOf es=some zs→es=zs.map eI
 | [],zs,h=>by cases h;rfl
 | a::as,zs,h=>by
  obtain ⟨z,h1,h2⟩:=Option.bind_eq_some_iff.1 (show (intOf a).bind _=_ from h)
  obtain ⟨ys,h3,rfl⟩:=Option.map_eq_some_iff.1 h2
  rw [JB h1,xI h3];rfl
omit [Lim] in
theorem yS:∀zs:List Int,intsOf (zs.map eI)=some zs
 | []=>rfl
 | z::zs=>by
  show (some z).bind (fun z=>(intsOf (zs.map eI)).map (z::·))=_
  rw [yS zs];rfl
def zM:List Arg→Option (Res×List Out)
 | [.ow sz es]=>(intsOf es).bind fun zs=>if sz=1∧zs.length<4611686018427387904 then some ([],[.ow 1 ((sortL zs).map eI)]) else none
 | _=>none
def sO:List Arg→Option (Res×List Out)
 | [.mv sz es]=>(intsOf es).bind fun zs=>if sz=1∧zs.length<4611686018427387904 then some ([(false,[.ow 0 1 ((cmpL zs).map eI)])],[]) else none
 | _=>none
section
variable {P:Program} {cfg:Cfg} {f:FuncId}
omit [Lim] in
theorem Qo {g:Nat} {zs r:List Int} (hx:cfg.ext g=some zM) (h:IA zs=some r):FL P cfg g [.ow 1 (zs.map eI)]=some ([],[.ow 1 (r.map eI)]):=by
 unfold IA at h
 split at h
 ·rename_i hc
  cases h
  refine Aq.2 ⟨1,?_⟩
  simp only [evF,hx,zM,yS,Option.bind_some,hc,and_self,if_true]
 ·cases h
omit [Lim] in
theorem JC {g:Nat} {zs r:List Int} (hx:cfg.ext g=some sO) (h:OA zs=some r):FL P cfg g [.mv 1 (zs.map eI)]=some ([(false,[.ow 0 1 (r.map eI)])],[]):=by
 unfold OA at h
 split at h
 ·rename_i hc
  cases h
  refine Aq.2 ⟨1,?_⟩
  simp only [evF,hx,sO,yS,Option.bind_some,hc,and_self,if_true]
 ·cases h
theorem KF {w:World} {W:Wit} {a:Arg} {v:Value} {n:Nat} {ob:Obj} (hr:Rel (bu w W 1) (entry [a]) (gm [v] 1) w W) (ha:mX 0 a=(.v false [.own 0 0 0],some ob)) (hcs:∃sz es,ob.cs=[⟨.sh,0,0,.row sz es⟩]):
 (W.vals 0)[0]?=some v∧(entry [a]).L 0=some ob:=by
 have hL:(entry [a]).L 0=some ob:=by
  show look none [(0,(mX 0 a).2)] 0=_
  rw [ha];rfl
 refine ⟨?_,hL⟩
 have hs:=hr.slots 0
 have e:(entry [a]).sl 0= .v false [.own 0 0 0]:=by
  show look .jK [(0,(mX 0 a).1)] 0=_
  rw [ha];rfl
 rw [e] at hs
 rcases hs with ⟨h1,_⟩ | ⟨_,r,h2,h3⟩
 ·cases h1
 ·cases h2
  obtain ⟨ob',h4,h5,h6⟩:=h3
  rw [hL] at h4;cases h4
  obtain ⟨sz,es,hcs⟩:=hcs
  exact h6 ⟨.sh,0,0,.row sz es⟩ (by rw [hcs];rfl) rfl
theorem OC (hC:∀(blk off cap:Nat) (zs:List Int) (w:World),Go.Sort.Holds (Value.int .i64) w blk off zs.toArray→blk<w.heap.size→zs.length<4611686018427387904→
 Calls P f #[.slice (some ⟨blk,off,none⟩) zs.length cap] w fun e w'=>e= .returned (.tuple #[])∧∃n os,w'=Go.Sort.grow (Go.Sort.putRow (Value.int .i64) (Go.Sort.ahead w n) blk off (sortL zs).toArray) os)
 (hN:∀(p:Option Addr) (cap:Nat) (w:World),Calls P f #[.slice p 0 cap] w fun e w'=>e= .returned (.tuple #[])∧w'=w) (hp:Plain P f):
 Plain P f∧∀args res outs,zM args=some (res,outs)→∀(w:World) (vs:List Value) (W:Wit),vs.length=args.length→BOK cfg.gb (bu w W 0)→(∀n,vs.length≤n→Rel (bu w W n) (entry args) (gm vs n) w W)→
  Calls P f vs.toArray w fun e w'=>∃v n,e= .returned v∧oD cfg f (bu w W n) args res outs w' v:=by
 refine ⟨hp,fun args res outs hx w vs W hl hB hr=>?_⟩
 unfold zM at hx
 split at hx
 ·rename_i sz es
  obtain ⟨zs,h1,h2⟩:=Option.bind_eq_some_iff.1 hx
  clear hx
  split at h2
  ·rename_i hc
   obtain ⟨rfl,hc⟩:=hc
   cases h2
   obtain rfl:=xI h1
   obtain ⟨v,rfl⟩:∃v,vs=[v]:=by
    match vs,hl with
    | [v],_=>exact ⟨v,rfl⟩
   have hr1:=hr 1 (Nat.le_refl _)
   obtain ⟨hv,hL⟩:=KF (n:=0) hr1 rfl ⟨_,_,rfl⟩
   have bM:=hr1.dA 0 _ hL
   have hcell:=bM.cells 0 _ v rfl hv
   obtain ⟨ho,_⟩:=hcell
   rcases ho with ⟨he,⟨x,rfl⟩,hnone⟩ | ⟨b,off,cap,arr,T,fr,us,rest,rfl,hfp,hh,hf,hs,hd,hci,hle,hrm⟩
   ·have hz:zs=[]:=by simpa using he
    subst hz
    refine Calls.mono (hN x 0 w) fun e w' hw=>?_
    obtain ⟨rfl,rfl⟩:=hw
    exact ⟨_,1,rfl,_,_,W,[],hr1,.inr .nil,rfl,by rw [Md];rfl⟩
   ·obtain rfl:=CRi.ints zs hci
    rw [List.length_map] at hle
    have hblk:b<w.heap.size:=by
     rcases Nat.lt_or_ge b w.heap.size with h | h
     ·exact h
     ·rw [Array.getElem?_eq_none h] at hh;cases hh
    have hys:(sortL zs).length=zs.length:=Fq zs
    have hcall:=hC b off cap zs w (Fv hh hf hd) hblk hc
    rw [List.length_map]
    refine Calls.mono hcall fun e w' hw=>?_
    obtain ⟨rfl,n,os,rfl⟩:=hw
    obtain ⟨p1,p2,p3,dY,p4,p5,p6⟩:=BF (ys:=sortL zs) hh hd hys n os
    have hun:oZ (Go.Sort.grow (Go.Sort.putRow (Value.int .i64) (Go.Sort.ahead w n) b off (sortL zs).toArray) os) b:=⟨dY,T,fr,p4,by rw [p5];exact hf⟩
    rw [List.length_map] at hv hr1
    have hr2:=hr1.TS (es':=(sortL zs).map eI) hL rfl rfl hfp hv (by simp [hys]) p1 p2 p3 hun
     (.inr ⟨b,off,cap,dY,T,fr,(sortL zs).map vI,rest,by rw [List.length_map,hys],rfl,p4,by rw [p5];exact hf,DN _,p6,CRi.ofInts _,by rw [List.length_map,hys];exact hle,by rw [p5];exact hrm⟩)
    refine ⟨_,1,rfl,_,_,W,[],hr2,.inr .nil,rfl,?_⟩
    simp only [mO,St.setObj,upd_same,Option.bind_some]
    rfl
  ·cases h2
 ·cases hx
theorem IG (hC:∀(blk off cap:Nat) (zs:List Int) (w:World),Go.Sort.Holds (Value.int .i64) w blk off zs.toArray→zs.length≤9223372036854775807→zs.length≤cap→
 Calls P f #[.slice (some ⟨blk,off,none⟩) zs.length cap] w fun e w'=>e= .returned (.slice (some ⟨blk,off,none⟩) (cmpL zs).length cap)∧∃n,w'=Go.Sort.putRow (Value.int .i64) (Go.Sort.ahead w n) blk off (cmpL zs++List.replicate (zs.length - (cmpL zs).length) 0).toArray)
 (hN:∀(p:Option Addr) (w:World),Calls P f #[.slice p 0 0] w fun e w'=>e= .returned (.slice p 0 0)∧∃n,w'={w with drawn:=n}) (hp:Plain P f):
 Plain P f∧∀args res outs,sO args=some (res,outs)→∀(w:World) (vs:List Value) (W:Wit),vs.length=args.length→BOK cfg.gb (bu w W 0)→(∀n,vs.length≤n→Rel (bu w W n) (entry args) (gm vs n) w W)→
  Calls P f vs.toArray w fun e w'=>∃v n,e= .returned v∧oD cfg f (bu w W n) args res outs w' v:=by
 refine ⟨hp,fun args res outs hx w vs W hl hB hr=>?_⟩
 unfold sO at hx
 split at hx
 ·rename_i sz es
  obtain ⟨zs,h1,h2⟩:=Option.bind_eq_some_iff.1 hx
  clear hx
  split at h2
  ·rename_i hc
   obtain ⟨rfl,hc⟩:=hc
   cases h2
   obtain rfl:=xI h1
   obtain ⟨v,rfl⟩:∃v,vs=[v]:=by
    match vs,hl with
    | [v],_=>exact ⟨v,rfl⟩
   have hr1:=hr 1 (Nat.le_refl _)
   obtain ⟨hv,hL⟩:=KF (n:=0) hr1 rfl ⟨_,_,rfl⟩
   have bM:=hr1.dA 0 _ hL
   have hcell:=bM.cells 0 _ v rfl hv
   obtain ⟨ho,hown⟩:=hcell
   rcases ho with ⟨he,⟨x,rfl⟩,hnone⟩ | ⟨b,off,cap,arr,T,fr,us,rest,rfl,hfp,hh,hf,hs,hd,hci,hle,hrm⟩
   ·have hz:zs=[]:=by simpa using he
    subst hz
    refine Calls.mono (hN x w) fun e w' hw=>?_
    obtain ⟨rfl,n,rfl⟩:=hw
    exact ⟨_,1,rfl,_,_,W,[_],hr1.drawn n,.inr (.one (.ow ⟨1,_,none,rfl,.inl ⟨by rw [OB];rfl,⟨x,rfl⟩,rfl⟩,fun b hb=>by cases hb⟩ .nil) .nil),rfl,rfl⟩
   ·obtain rfl:=CRi.ints zs hci
    rw [List.length_map] at hle
    have hys:=IE zs
    have hyl:(cmpL zs++List.replicate (zs.length - (cmpL zs).length) 0).length=zs.length:=by rw [List.length_append,List.length_replicate];omega
    have hcall:=hC b off cap zs w (Fv hh hf hd) (by omega) hle
    rw [List.length_map]
    obtain ⟨W',t1,t2,t3,t4,t5,t6,t7,t8⟩:=uN hr1 (o:=0) (s:=0) (c:=0) (ob:={gen:=0,ctr:=0,io:=false,mem:=false,fz:=false,ag:=false,cs:=[⟨.sh,0,0,.row 1 (zs.map eI)⟩]}) (x0:=⟨.sh,0,0,.row 1 (zs.map eI)⟩)
     rfl (by intro e;cases e) (by intro e;cases e) (fun b=>W.fp 0 0=some b) (fun b hb=>hown b hb) 0 (m:= .gone) (jI.none rfl) (fun v hv=>trivial)
    refine Calls.mono hcall fun e w' hw=>?_
    obtain ⟨rfl,n,rfl⟩:=hw
    obtain ⟨p1,p2,p3,dY,p4,p5,p6⟩:=BF (ys:=cmpL zs++List.replicate (zs.length - (cmpL zs).length) 0) hh hd hyl n #[]
    rw [Go.Sort.grow_empty] at p1 p2 p3 p4
    have hun:oZ (Go.Sort.putRow (Value.int .i64) (Go.Sort.ahead w n) b off (cmpL zs++List.replicate (zs.length - (cmpL zs).length) 0).toArray) b:=⟨dY,T,fr,p4,by rw [p5];exact hf⟩
    have hr2:=t1.TR p1 (t8 b hfp) p2 p3 hun
    rw [List.map_append,List.append_assoc] at p6
    refine ⟨_,1,rfl,_,_,W',[_],hr2,.inr (.one (.ow ⟨1,_,some b,rfl,.inr ⟨b,off,cap,dY,T,fr,(cmpL zs).map vI,_,?_,rfl,p4,by rw [p5];exact hf,DN _,p6,CRi.ofInts _,?_,by rw [p5];exact hrm⟩,fun b' hb'=>by cases hb';exact t8 b hfp⟩ .nil) .nil),rfl,rfl⟩
    ·rw [List.length_map]
    ·rw [List.length_map];omega
  ·cases h2
 ·cases hx
end
end Go.Sim
