/- Functions of the library that write into a row in place, by contracts: slices.Sort, slices.Compact, slices.Delete at numbers. Conditions: none. -/
import Derived.Test.YtjejfolfomknaaaSimRk
import Derived.Test.YtjejfolfomknaaaSimPt
import Derived.Sort.Row
import Derived.Sort.Grow
namespace Go.Sim
variable [Lim]
open Go.Pw
set_option linter.unusedSimpArgs false
set_option linter.unusedVariables false
section
variable {P:Program} {cfg:Cfg} {B:Base} {st:St} {a:Act} {w w':World} {W:Wit} {f:FuncId}
theorem Rel.XE (h:Rel B st a w W) {b:Nat} (hio:w'.os=w.os∧w'.output=w.output) {k:Nat} (hb:W.own b=some (.det k)) (hne:∀b',b'≠b→b'<w.heap.size→w'.heap[b']?=w.heap[b']?) (hsz:w.heap.size≤w'.heap.size)
 (hun:uU w' b):Rel B st a w' W:=by
 have hmem:∀b' x,W.own b'=some x→x≠ .det k→w'.heap[b']?=w.heap[b']?:=fun b' x hx hn=>hne b' (fun e=>by rw [e,hb] at hx;cases hx;exact hn rfl) (h.olt b' x hx).1
 have hF:∀t b',W.F (tg t) b'→W.F (tg t) b'∧w'.heap[b']?=w.heap[b']?:=fun t b' hx=>⟨hx,hne b' (fun e=>by
  have:=h.lq b' (h.f2 hx)
  rw [e,hb] at this;cases this) (h.flt b' (h.f2 hx))⟩
 have hD:TrK w w' W W:=TrK.of fun x b' hx=>⟨hx,hmem b' _ hx fun e=>by cases e⟩
 have:=h.step (L':=st.L) (w':=w') (W':=W) hio (fun _ _ hb=>hb) h.f01 h.f12 (fun _ _ hb=> .inl hb) h.lq (fun b hb=>Nat.lt_of_lt_of_le (h.flt b hb) hsz)
  (fun b x hb=>⟨Nat.lt_of_lt_of_le (h.olt b x hb).1 hsz,(h.olt b x hb).2⟩) (fun b hb=>(hF 2 b hb).2) (Ext.refl _ _) (fun o ob hL hi=>⟨ob,hL,hi,rfl,rfl,fun _=>rfl⟩)
  (fun o ob hL=>(h.fH o ob hL).keep hF rfl rfl (fun _=>rfl) (fun _=>rfl) (fun c b hb=>⟨hb,hmem b _ hb fun e=>by cases e⟩) (fun hm=>by
    obtain ⟨arr,T,fr,k1,k2,k3,k4,k5⟩:=(h.fH o ob hL).mem hm
    cases hf:ob.fz with
    | false=>exact ⟨hmem _ _ (k4 hf) (fun e=>by cases e),fun _=>k4 hf⟩
    | true=>exact ⟨(hF 0 _ (k5 hf)).2,fun e=>by cases e⟩) hD)
  (fun b' hlt hl=>hne b' (fun e=>by
    subst e
    rcases (h.olt b' _ hb).2 with h1 | h1
    ·omega
    ·exact hl h1) (Nat.lt_of_lt_of_le hlt h.size)) hsz hD (fun b hb=> .inl hb) (fun b' x hx=>by
    by_cases e:b'=b
    ·subst e;exact .inr hun
    ·exact .inl ⟨⟨x,hx⟩,.inl (hne b' e (h.olt b' x hx).1)⟩)
 exact this
end
def vI (n:Int):Value:= .int .i64 n
theorem CRi.ints {w:World} {Fp:Nat→Prop}:∀(zs:List Int) {us:List Value},CRi w Fp ((zs.map eI).flatMap AV.cells) us→us=zs.map vI
 | [],us,h=>by cases h;rfl
 | z::zs,us,h=>by
  have h:CRi w Fp (.sc (.int .i64 z)::(zs.map eI).flatMap AV.cells) us:=h
  cases h with
  | sc _ h2=>rw [CRi.ints zs h2];rfl
theorem CRi.ofInts {w:World} {Fp:Nat→Prop}:∀(zs:List Int),CRi w Fp ((zs.map eI).flatMap AV.cells) (zs.map vI)
 | []=> .nil
 | z::zs=>CRi.sc rfl (CRi.ofInts zs)
omit [Lim] in
theorem Om (zs:List Int):∀e∈zs.map eI,e.cells.length=1:=by
 intro e he
 obtain ⟨z,_,rfl⟩:=List.mem_map.1 he
 rfl
omit [Lim] in
theorem Q3 {w:World} {b off:Nat} {arr:Array Value} {T:TypeId} {fr:Nat×Nat} {zs:List Int} {rest:List Value} (hh:w.heap[b]?=some (.cells arr T fr)) (hf:∀i<arr.size,¬(fr.1≤i∧i<fr.2)) (hd:arr.toList.drop off=zs.map vI++rest):
 Go.Sort.Holds (Value.int .i64) w b off zs.toArray:=by
 intro j hj
 have hj:j<zs.length:=by simpa using hj
 have hg:arr[off+j]?=some (vI zs[j]):=by
  have:(arr.toList.drop off)[j]?=some (vI zs[j]):=by
   rw [hd,List.getElem?_append_left (by rw [List.length_map];exact hj),List.getElem?_map,List.getElem?_eq_getElem hj];rfl
  rw [List.getElem?_drop] at this
  simpa using this
 have hlt:off+j<arr.size:=by
  rcases Nat.lt_or_ge (off+j) arr.size with h | h
  ·exact h
  ·rw [Array.getElem?_eq_none h] at hg;cases hg
 refine ⟨?_,?_⟩
 ·unfold World.cell?
  simp only [hh]
  rw [if_neg (by decide),hg]
  congr 1
  show vI zs[j]=Value.int .i64 (zs.toArray[j]!)
  have:zs.toArray[j]! =zs[j]:=by simp [hj]
  rw [this];rfl
 ·unfold World.frozen?
  simp only [hh]
  have:=hf (off+j) hlt
  simp only [Bool.and_eq_false_iff,decide_eq_false_iff_not]
  by_cases c:fr.1≤off+j
  ·right;exact fun h=>this ⟨c,h⟩
  ·left;exact c
omit [Lim] in
theorem MS {w:World} {b off:Nat} {arr:Array Value} {T:TypeId} {fr:Nat×Nat} {zs ys:List Int} {rest:List Value} (hh:w.heap[b]?=some (.cells arr T fr)) (hd:arr.toList.drop off=zs.map vI++rest) (hl:ys.length=zs.length) (n:Nat) (os:Array Go.Obj):
 let w':=Go.Sort.grow (Go.Sort.putRow (Value.int .i64) (Go.Sort.ahead w n) b off ys.toArray) os
 (w'.os=w.os∧w'.output=w.output)∧(∀b',b'≠b→b'<w.heap.size→w'.heap[b']?=w.heap[b']?)∧w.heap.size≤w'.heap.size∧∃ig,w'.heap[b]?=some (.cells ig T fr)∧ig.size=arr.size∧ig.toList.drop off=ys.map vI++rest:=by
 intro w'
 have hb:b<w.heap.size:=by
  rcases Nat.lt_or_ge b w.heap.size with h | h
  ·exact h
  ·rw [Array.getElem?_eq_none h] at hh;cases hh
 have hw:w'.heap=w.heap.modify b (Go.Sort.onCells (Go.Sort.putCells (Value.int .i64) off ys.toArray))++os:=rfl
 refine ⟨⟨rfl,rfl⟩,fun b' hne hlt=>?_,?_,Go.Sort.putCells (Value.int .i64) off ys.toArray arr,?_,?_,?_⟩
 ·rw [hw,Array.getElem?_append_left (by rw [Array.size_modify];exact hlt),Array.getElem?_modify,if_neg (fun e=>hne e.symm)]
 ·rw [hw,Array.size_append,Array.size_modify];omega
 ·rw [hw,Array.getElem?_append_left (by rw [Array.size_modify];exact hb),Array.getElem?_modify,if_pos rfl,hh];rfl
 ·unfold Go.Sort.putCells;simp
 ·apply List.ext_getElem?
  intro k
  have hold:arr[off+k]?=(zs.map vI++rest)[k]?:=by rw [←hd,List.getElem?_drop];simp
  rw [List.getElem?_drop,Array.getElem?_toList]
  unfold Go.Sort.putCells
  rw [Array.getElem?_mapIdx,hold]
  by_cases c:k<ys.length
  ·rw [List.getElem?_append_left (by rw [List.length_map];omega),List.getElem?_append_left (by rw [List.length_map];exact c),List.getElem?_map,List.getElem?_map,List.getElem?_eq_getElem (by omega:k<zs.length),List.getElem?_eq_getElem c]
   simp only [Option.map_some]
   rw [if_pos ⟨by omega,by simpa using c⟩]
   congr 1
   show Value.int .i64 (ys.toArray[off+k - off]!)=vI ys[k]
   have:ys.toArray[off+k - off]! =ys[k]:=by simp [c]
   rw [this];rfl
  ·rw [List.getElem?_append_right (by rw [List.length_map];omega),List.getElem?_append_right (by rw [List.length_map];omega),List.length_map,List.length_map,hl]
   cases h:rest[k - zs.length]? with
   | none=>rfl
   | some x=>
    simp only [Option.map_some]
    rw [if_neg (by simp;omega)]
def intOf:AV→Option Int
 | .sc (.int .i64 n)=>some n
 | _=>none
def intsOf:List AV→Option (List Int)
 | []=>some []
 | a::as=>(intOf a).bind fun z=>(intsOf as).map (z::·)
omit [Lim] in
theorem Oo {a:AV} {z:Int} (h:intOf a=some z):a=eI z:=by
 unfold intOf at h
 split at h
 ·cases h;rfl
 ·cases h
omit [Lim] in
theorem FV:∀{es:List AV} {zs:List Int},intsOf es=some zs→es=zs.map eI
 | [],zs,h=>by cases h;rfl
 | a::as,zs,h=>by
  obtain ⟨z,h1,h2⟩:=Option.bind_eq_some_iff.1 (show (intOf a).bind _=_ from h)
  obtain ⟨ys,h3,rfl⟩:=Option.map_eq_some_iff.1 h2
  rw [Oo h1,FV h3];rfl
omit [Lim] in
theorem Ih:∀zs:List Int,intsOf (zs.map eI)=some zs
 | []=>rfl
 | z::zs=>by
  show (some z).bind (fun z=>(intsOf (zs.map eI)).map (z::·))=_
  rw [Ih zs];rfl
section
variable {P:Program} {cfg:Cfg} {f:FuncId}
end
end Go.Sim
