/- How a state without addresses reads in memory: the relation between the deterministic machine and the model's own machine, and its first laws. Conditions: none. -/
import Derived.Test.YtngbehdgjocndaaGreatSimB
namespace Go.Sim
set_option linter.unusedVariables false
class Lim where
 n:Nat
variable [Lim]
inductive CRi (w:World) (Fp:Nat→Prop):List AV→List Value→Prop
 | nil:CRi w Fp [] []
 | sc {v as vs}:plain v=true→CRi w Fp as vs→CRi w Fp (.sc v::as) (v::vs)
 | gy {sz as vs} {x:Option Addr}:CRi w Fp as vs→CRi w Fp (.row sz []::as) (.slice x 0 0::vs)
 | row {sz es as vs b off cap arr T fr us rest}:Fp b→w.heap[b]?=some (.cells arr T fr)→(∀e∈es,e.cells.length=sz)→
  arr.toList.drop off=us++rest→(es.length≤cap∧(off+cap*sz≤arr.size∨b<Lim.n))→CRi w Fp (es.flatMap AV.cells) us→CRi w Fp as vs→
  CRi w Fp (.row sz es::as) (.slice (some ⟨b,off,none⟩) es.length cap::vs)
 | cp {cs off as vs b ik arr T fr us rest}:Fp b→w.heap[b]?=some (.cells arr T fr)→
  arr.toList.drop ik=us++rest→CRi w Fp cs us→CRi w Fp as vs→
  CRi w Fp (.cp cs off::as) (.pointer (some ⟨b,ik+off,none⟩)::vs)
 | clo {f cs us as vs}:CRi w Fp cs us→CRi w Fp as vs→CRi w Fp (.clo f cs::as) (.func (.func f) #[] us.toArray::vs)
inductive CRs (w:World) (Fp:Nat→Prop):List AV→List Value→Prop
 | nil:CRs w Fp [] []
 | sc {v u as vs}:plain u=true→CRs w Fp as vs→CRs w Fp (.sc v::as) (u::vs)
 | gy {sz as vs} {x:Option Addr}:CRs w Fp as vs→CRs w Fp (.row sz []::as) (.slice x 0 0::vs)
 | row {sz es as vs b off cap arr T fr us rest}:Fp b→w.heap[b]?=some (.cells arr T fr)→(∀e∈es,e.cells.length=sz)→
  arr.toList.drop off=us++rest→es.length≤cap→CRs w Fp (es.flatMap AV.cells) us→CRs w Fp as vs→
  CRs w Fp (.row sz es::as) (.slice (some ⟨b,off,none⟩) es.length cap::vs)
 | cp {cs off as vs b ik arr T fr us rest}:Fp b→w.heap[b]?=some (.cells arr T fr)→
  arr.toList.drop ik=us++rest→CRs w Fp cs us→CRs w Fp as vs→
  CRs w Fp (.cp cs off::as) (.pointer (some ⟨b,ik+off,none⟩)::vs)
 | clo {f cs us as vs}:CRs w Fp cs us→CRs w Fp as vs→CRs w Fp (.clo f cs::as) (.func (.func f) #[] us.toArray::vs)
def Alike (v u:Value):Prop:=u=v∨(plain v=true∧plain u=true)
def MC (x y:Option Go.Obj):Prop:=
 y=x∨∃arr jR T fr,x=some (.cells arr T fr)∧y=some (.cells jR T fr)∧jR.size=arr.size∧∀(i:Nat) v,arr[i]?=some v→∃u,jR[i]?=some u∧Alike v u
omit [Lim] in
theorem Alike.trans {a b c:Value} (h:Alike a b) (h':Alike b c):Alike a c:=by
 rcases h with rfl | ⟨h1,h2⟩
 ·exact h'
 ·rcases h' with rfl | ⟨h3,h4⟩
  ·exact .inr ⟨h1,h2⟩
  ·exact .inr ⟨h1,h4⟩
omit [Lim] in
theorem MC.trans {x y z:Option Go.Obj} (h:MC x y) (h':MC y z):MC x z:=by
 rcases h with rfl | ⟨a1,a2,T,fr,rfl,rfl,h1,h2⟩
 ·exact h'
 ·rcases h' with rfl | ⟨b1,b2,T',fr',e1,rfl,h3,h4⟩
  ·exact .inr ⟨a1,a2,T,fr,rfl,rfl,h1,h2⟩
  ·cases e1
   refine .inr ⟨a1,b2,T,fr,rfl,rfl,h3.trans h1,fun i v hv=>?_⟩
   obtain ⟨u,q1,q2⟩:=h2 i v hv
   obtain ⟨u',r1,r2⟩:=h4 i u q1
   exact ⟨u',r1,q2.trans r2⟩
inductive kH:List Value→List Value→Prop
 | nil:kH [] []
 | cons {v u vs us}:Alike v u→kH vs us→kH (v::vs) (u::us)
omit [Lim] in
theorem kH.refl:∀l:List Value,kH l l
 | []=> .nil
 | v::l=> .cons (.inl rfl) (kH.refl l)
omit [Lim] in
theorem kH.PK:∀{l l':List Value},l'.length=l.length→(∀(i:Nat) v,l[i]?=some v→∃u,l'[i]?=some u∧Alike v u)→kH l l'
 | [],[],_,_=> .nil
 | [],_::_,h,_=>by simp at h
 | _::_,[],h,_=>by simp at h
 | v::l,u::l',hl,h=>by
  obtain ⟨u',q1,q2⟩:=h 0 v rfl
  simp at q1;subst q1
  exact .cons q2 (kH.PK (by simpa using hl) fun i v hv=>by simpa using h (i+1) v (by simpa using hv))
omit [Lim] in
theorem kH.tX:∀{l1 l2 l':List Value},kH (l1++l2) l'→∃k1 k2,l'=k1++k2∧kH l1 k1∧kH l2 k2
 | [],l2,l',h=>⟨[],l',rfl,.nil,h⟩
 | v::l1,l2,l',h=>by
  cases h with
  | @cons _ u _ us h1 h2=>
   obtain ⟨k1,k2,rfl,h3,h4⟩:=kH.tX h2
   exact ⟨u::k1,k2,rfl,.cons h1 h3,h4⟩
omit [Lim] in
theorem kH.drop:∀(n:Nat) {l l':List Value},kH l l'→kH (l.drop n) (l'.drop n)
 | 0,_,_,h=>by simpa using h
 | n+1,_,_,.nil=>by simpa using kH.nil
 | n+1,_,_,.cons _ h=>by simpa using kH.drop n h
namespace CRs
variable {w w':World} {Fp Fp':Nat→Prop}
omit [Lim] in
theorem length {as vs} (h:CRs w Fp as vs):as.length=vs.length:=by
 induction h<;>simp_all
omit [Lim] in
theorem shp (hm:∀b,Fp b→Fp' b∧MC (w.heap[b]?) (w'.heap[b]?)) {as vs} (h:CRs w Fp as vs):∀{us},kH vs us→CRs w' Fp' as us:=by
 have blk:∀{b:Nat} {arr T fr} {us rest:List Value} {off:Nat},Fp b→w.heap[b]?=some (.cells arr T fr)→arr.toList.drop off=us++rest→
  ∃jR us' rest',w'.heap[b]?=some (.cells jR T fr)∧jR.toList.drop off=us'++rest'∧kH us us':=by
  intro b arr T fr us rest off hb hh hd
  rcases (hm b hb).2 with e | ⟨a1,a2,T',fr',e1,e2,h1,h2⟩
  ·exact ⟨arr,us,rest,e.trans hh,hd,kH.refl _⟩
  ·rw [hh] at e1
   cases e1
   have ha:kH arr.toList a2.toList:=kH.PK (by simpa using h1) fun i v hv=>by simpa using h2 i v (by simpa using hv)
   have hx:=ha.drop off
   rw [hd] at hx
   obtain ⟨k1,k2,e3,h3,h4⟩:=hx.tX
   exact ⟨a2,k1,k2,e2,e3,h3⟩
 induction h with
 | nil=>intro us ha;cases ha;exact .nil
 | sc hp _ ih=>
  intro us ha
  cases ha with
  | cons h1 h2=>
   refine .sc ?_ (ih h2)
   rcases h1 with rfl | ⟨_,h1⟩
   ·exact hp
   ·exact h1
 | gy _ ih=>
  intro us ha
  cases ha with
  | cons h1 h2=>
   rcases h1 with rfl | ⟨h1,_⟩
   ·exact .gy (ih h2)
   ·simp [plain] at h1
 | row hb hh hs hd hl _ _ ih1 ih2=>
  intro us ha
  cases ha with
  | cons h1 h2=>
   rcases h1 with rfl | ⟨h1,_⟩
   ·obtain ⟨jR,us',rest',k1,k2,k3⟩:=blk hb hh hd
    exact .row (hm _ hb).1 k1 hs k2 hl (ih1 k3) (ih2 h2)
   ·simp [plain] at h1
 | cp hb hh hd _ _ ih1 ih2=>
  intro us ha
  cases ha with
  | cons h1 h2=>
   rcases h1 with rfl | ⟨h1,_⟩
   ·obtain ⟨jR,us',rest',k1,k2,k3⟩:=blk hb hh hd
    exact .cp (hm _ hb).1 k1 k2 (ih1 k3) (ih2 h2)
   ·simp [plain] at h1
 | clo _ _ ih1 ih2=>
  intro us ha
  cases ha with
  | cons h1 h2=>
   rcases h1 with rfl | ⟨h1,_⟩
   ·exact .clo (ih1 (kH.refl _)) (ih2 h2)
   ·simp [plain] at h1
omit [Lim] in
theorem mono (hm:∀b,Fp b→Fp' b∧MC (w.heap[b]?) (w'.heap[b]?)) {as vs} (h:CRs w Fp as vs):CRs w' Fp' as vs:=h.shp hm (kH.refl _)
omit [Lim] in
theorem append {as vs bs us} (h:CRs w Fp as vs) (h':CRs w Fp bs us):CRs w Fp (as++bs) (vs++us):=by
 induction h with
 | nil=>exact h'
 | sc hp _ ih=>exact .sc hp ih
 | gy _ ih=>exact .gy ih
 | row hb hh hs hd hl h1 _ _ ih2=>exact .row hb hh hs hd hl h1 ih2
 | cp hb hh hd h1 _ _ ih2=>exact .cp hb hh hd h1 ih2
 | clo h1 _ _ ih2=>exact .clo h1 ih2
omit [Lim] in
theorem cons_inv {a as vs} (h:CRs w Fp (a::as) vs):∃v us,vs=v::us∧CRs w Fp [a] [v]∧CRs w Fp as us:=by
 cases h with
 | sc hp h=>exact ⟨_,_,rfl,.sc hp .nil,h⟩
 | gy h=>exact ⟨_,_,rfl,.gy .nil,h⟩
 | row hb hh hs hd hl h1 h=>exact ⟨_,_,rfl,.row hb hh hs hd hl h1 .nil,h⟩
 | cp hb hh hd h1 h=>exact ⟨_,_,rfl,.cp hb hh hd h1 .nil,h⟩
 | clo h1 h=>exact ⟨_,_,rfl,.clo h1 .nil,h⟩
omit [Lim] in
theorem cons {a as v vs} (h:CRs w Fp [a] [v]) (h':CRs w Fp as vs):CRs w Fp (a::as) (v::vs):=by
 have:=h.append h'
 simpa using this
omit [Lim] in
theorem tX {as bs vs} (h:CRs w Fp (as++bs) vs):∃us us',vs=us++us'∧CRs w Fp as us∧CRs w Fp bs us':=by
 induction as generalizing vs with
 | nil=>exact ⟨[],vs,rfl,.nil,h⟩
 | cons a as ih=>
  obtain ⟨v,us,rfl,h1,h2⟩:=cons_inv h
  obtain ⟨us1,us2,rfl,h3,h4⟩:=ih h2
  exact ⟨v::us1,us2,rfl,cons h1 h3,h4⟩
omit [Lim] in
theorem take {as vs} (n:Nat) (h:CRs w Fp as vs):CRs w Fp (as.take n) (vs.take n):=by
 induction n generalizing as vs with
 | zero=>simpa using CRs.nil
 | succ n ih=>
  cases as with
  | nil=>cases h;simpa using CRs.nil
  | cons a as=>
   obtain ⟨v,us,rfl,h1,h2⟩:=cons_inv h
   simpa using cons h1 (ih h2)
omit [Lim] in
theorem drop {as vs} (n:Nat) (h:CRs w Fp as vs):CRs w Fp (as.drop n) (vs.drop n):=by
 induction n generalizing as vs with
 | zero=>simpa using h
 | succ n ih=>
  cases as with
  | nil=>cases h;simpa using CRs.nil
  | cons a as=>
   obtain ⟨v,us,rfl,h1,h2⟩:=cons_inv h
   simpa using ih h2
omit [Lim] in
theorem get {as vs} (h:CRs w Fp as vs) {i:Nat} {a:AV} (hi:as[i]?=some a):∃v,vs[i]?=some v∧CRs w Fp [a] [v]:=by
 induction i generalizing as vs with
 | zero=>
  cases as with
  | nil=>simp at hi
  | cons x as=>
   obtain ⟨v,us,rfl,h1,h2⟩:=cons_inv h
   simp at hi;subst hi
   exact ⟨v,by simp,h1⟩
 | succ i ih=>
  cases as with
  | nil=>simp at hi
  | cons x as=>
   obtain ⟨v,us,rfl,h1,h2⟩:=cons_inv h
   simpa using ih h2 (by simpa using hi)
end CRs
theorem CRi.shape {w:World} {Fp Fp':Nat→Prop} (hm:∀b,Fp b→Fp' b) {as vs} (h:CRi w Fp as vs):CRs w Fp' as vs:=by
 induction h with
 | nil=>exact .nil
 | sc hp _ ih=>exact .sc hp ih
 | gy _ ih=>exact .gy ih
 | row hb hh hs hd hl _ _ ih1 ih2=>exact .row (hm _ hb) hh hs hd hl.1 ih1 ih2
 | cp hb hh hd _ _ ih1 ih2=>exact .cp (hm _ hb) hh hd ih1 ih2
 | clo _ _ ih1 ih2=>exact .clo ih1 ih2
def Dx (w:World) (b:Nat):Prop:=∃arr T fr,w.heap[b]?=some (.cells arr T fr)∧∀i<arr.size,¬(fr.1≤i∧i<fr.2)
omit [Lim] in
theorem Dx.shp {w w':World} {b:Nat} (h:Dx w b) (hs:MC (w.heap[b]?) (w'.heap[b]?)):Dx w' b:=by
 obtain ⟨arr,T,fr,h1,h2⟩:=h
 rcases hs with e | ⟨a1,a2,T',fr',e1,e2,h3,h4⟩
 ·exact ⟨arr,T,fr,e.trans h1,h2⟩
 ·rw [h1] at e1
  cases e1
  exact ⟨a2,T,fr,e2,by rw [h3];exact h2⟩
namespace CRi
variable {w w':World} {Fp Fp':Nat→Prop}
theorem length {as vs} (h:CRi w Fp as vs):as.length=vs.length:=by
 induction h<;>simp_all
theorem mono (hm:∀b,Fp b→Fp' b∧w'.heap[b]?=w.heap[b]?) {as vs} (h:CRi w Fp as vs):CRi w' Fp' as vs:=by
 induction h with
 | nil=>exact .nil
 | sc hp _ ih=>exact .sc hp ih
 | gy _ ih=>exact .gy ih
 | row hb hh hs hd hl _ _ ih1 ih2=>exact .row (hm _ hb).1 ((hm _ hb).2.trans hh) hs hd hl ih1 ih2
 | cp hb hh hd _ _ ih1 ih2=>exact .cp (hm _ hb).1 ((hm _ hb).2.trans hh) hd ih1 ih2
 | clo _ _ ih1 ih2=>exact .clo ih1 ih2
theorem append {as vs bs us} (h:CRi w Fp as vs) (h':CRi w Fp bs us):CRi w Fp (as++bs) (vs++us):=by
 induction h with
 | nil=>exact h'
 | sc hp _ ih=>exact .sc hp ih
 | gy _ ih=>exact .gy ih
 | row hb hh hs hd hl h1 _ _ ih2=>exact .row hb hh hs hd hl h1 ih2
 | cp hb hh hd h1 _ _ ih2=>exact .cp hb hh hd h1 ih2
 | clo h1 _ _ ih2=>exact .clo h1 ih2
theorem cons_inv {a as vs} (h:CRi w Fp (a::as) vs):∃v us,vs=v::us∧CRi w Fp [a] [v]∧CRi w Fp as us:=by
 cases h with
 | sc hp h=>exact ⟨_,_,rfl,.sc hp .nil,h⟩
 | gy h=>exact ⟨_,_,rfl,.gy .nil,h⟩
 | row hb hh hs hd hl h1 h=>exact ⟨_,_,rfl,.row hb hh hs hd hl h1 .nil,h⟩
 | cp hb hh hd h1 h=>exact ⟨_,_,rfl,.cp hb hh hd h1 .nil,h⟩
 | clo h1 h=>exact ⟨_,_,rfl,.clo h1 .nil,h⟩
theorem cons {a as v vs} (h:CRi w Fp [a] [v]) (h':CRi w Fp as vs):CRi w Fp (a::as) (v::vs):=by
 have:=h.append h'
 simpa using this
theorem tX {as bs vs} (h:CRi w Fp (as++bs) vs):∃us us',vs=us++us'∧CRi w Fp as us∧CRi w Fp bs us':=by
 induction as generalizing vs with
 | nil=>exact ⟨[],vs,rfl,.nil,h⟩
 | cons a as ih=>
  obtain ⟨v,us,rfl,h1,h2⟩:=cons_inv h
  obtain ⟨us1,us2,rfl,h3,h4⟩:=ih h2
  exact ⟨v::us1,us2,rfl,cons h1 h3,h4⟩
theorem take {as vs} (n:Nat) (h:CRi w Fp as vs):CRi w Fp (as.take n) (vs.take n):=by
 induction n generalizing as vs with
 | zero=>simpa using CRi.nil
 | succ n ih=>
  cases as with
  | nil=>cases h;simpa using CRi.nil
  | cons a as=>
   obtain ⟨v,us,rfl,h1,h2⟩:=cons_inv h
   simpa using cons h1 (ih h2)
theorem drop {as vs} (n:Nat) (h:CRi w Fp as vs):CRi w Fp (as.drop n) (vs.drop n):=by
 induction n generalizing as vs with
 | zero=>simpa using h
 | succ n ih=>
  cases as with
  | nil=>cases h;simpa using CRi.nil
  | cons a as=>
   obtain ⟨v,us,rfl,h1,h2⟩:=cons_inv h
   simpa using ih h2
theorem get {as vs} (h:CRi w Fp as vs) {i:Nat} {a:AV} (hi:as[i]?=some a):∃v,vs[i]?=some v∧CRi w Fp [a] [v]:=by
 induction i generalizing as vs with
 | zero=>
  cases as with
  | nil=>simp at hi
  | cons x as=>
   obtain ⟨v,us,rfl,h1,h2⟩:=cons_inv h
   simp at hi;subst hi
   exact ⟨v,by simp,h1⟩
 | succ i ih=>
  cases as with
  | nil=>simp at hi
  | cons x as=>
   obtain ⟨v,us,rfl,h1,h2⟩:=cons_inv h
   simpa using ih h2 (by simpa using hi)
theorem set {as vs} (h:CRi w Fp as vs) {i:Nat} {a:AV} {v:Value} (h':CRi w Fp [a] [v]):CRi w Fp (as.set i a) (vs.set i v):=by
 induction i generalizing as vs with
 | zero=>
  cases as with
  | nil=>cases h;simpa using CRi.nil
  | cons x as=>
   obtain ⟨u,us,rfl,h1,h2⟩:=cons_inv h
   simpa using cons h' h2
 | succ i ih=>
  cases as with
  | nil=>cases h;simpa using CRi.nil
  | cons x as=>
   obtain ⟨u,us,rfl,h1,h2⟩:=cons_inv h
   simpa using cons h1 (ih h2)
end CRi
omit [Lim] in
theorem uY {sz:Nat}:∀{es:List AV} (_:∀e∈es,e.cells.length=sz) (i:Nat),(es.flatMap AV.cells).drop (i*sz)=(es.drop i).flatMap AV.cells
 | [],_,i=>by simp
 | e::es,h,0=>by simp
 | e::es,h,i+1=>by
  have he:e.cells.length=sz:=h e (by simp)
  have ih:=uY (es:=es) (fun x hx=>h x (by simp [hx])) i
  have:(i+1) *sz=e.cells.length+i*sz:=by rw [he];rw [Nat.add_mul];omega
  rw [List.flatMap_cons,this,List.drop_append]
  simp [ih,List.drop_eq_nil_of_le]
omit [Lim] in
theorem IG {sz:Nat}:∀{es:List AV} (_:∀e∈es,e.cells.length=sz) (i:Nat),(es.flatMap AV.cells).take (i*sz)=(es.take i).flatMap AV.cells
 | [],_,i=>by simp
 | e::es,h,0=>by simp
 | e::es,h,i+1=>by
  have he:e.cells.length=sz:=h e (by simp)
  have ih:=IG (es:=es) (fun x hx=>h x (by simp [hx])) i
  have:(i+1) *sz=e.cells.length+i*sz:=by rw [he];rw [Nat.add_mul];omega
  rw [List.flatMap_cons,this,List.take_append]
  simp [ih,List.take_of_length_le]
omit [Lim] in
theorem flat_length {sz:Nat}:∀{es:List AV} (_:∀e∈es,e.cells.length=sz),(es.flatMap AV.cells).length=es.length*sz
 | [],_=>by simp
 | e::es,h=>by
  have he:e.cells.length=sz:=h e (by simp)
  have ih:=flat_length (es:=es) (fun x hx=>h x (by simp [hx]))
  rw [List.flatMap_cons,List.length_append,ih,he,List.length_cons,Nat.add_mul]
  omega
def kJ (w:World) (Fp:Nat→Prop) (sz:Nat) (es:List AV) (v:Value) (ob:Option Nat):Prop:=
 (es=[]∧(∃x,v= .slice x 0 0)∧ob=none)∨
 ∃b off cap arr T fr us rest,v= .slice (some ⟨b,off,none⟩) es.length cap∧ob=some b∧w.heap[b]?=some (.cells arr T fr)∧
  (∀i<arr.size,¬(fr.1≤i∧i<fr.2))∧(∀e∈es,e.cells.length=sz)∧arr.toList.drop off=us++rest∧
  CRi w Fp (es.flatMap AV.cells) us∧es.length≤cap∧off+cap*sz≤arr.size
theorem kJ.mono {w w':World} {Fp Fp':Nat→Prop} {sz es v ob} (hm:∀b,Fp b→Fp' b∧w'.heap[b]?=w.heap[b]?) (hb:∀b,ob=some b→w'.heap[b]?=w.heap[b]?)
 (h:kJ w Fp sz es v ob):kJ w' Fp' sz es v ob:=by
 rcases h with h | ⟨b,off,cap,arr,T,fr,us,rest,hv,ho,hh,hf,hs,hd,hc,hl,hr⟩
 ·exact .inl h
 ·exact .inr ⟨b,off,cap,arr,T,fr,us,rest,hv,ho,(hb b ho).trans hh,hf,hs,hd,hc.mono hm,hl,hr⟩
theorem kJ.freeze {w:World} {Fp:Nat→Prop} {sz es v ob} (h:kJ w Fp sz es v ob) (hb:∀b,ob=some b→Fp b):CRi w Fp [.row sz es] [v]:=by
 rcases h with ⟨rfl,⟨x,rfl⟩,_⟩ | ⟨b,off,cap,arr,T,fr,us,rest,rfl,ho,hh,hf,hs,hd,hc,hl,hr⟩
 ·exact .gy .nil
 ·exact .row (hb b ho) hh hs hd ⟨hl,.inl hr⟩ hc .nil
inductive CRo (w:World) (Fp:Nat→Prop):List AV→List Value→List Nat→Prop
 | nil:CRo w Fp [] [] []
 | im {a v as vs bs}:(∀z es,a≠ .row z es)→CRi w Fp [a] [v]→CRo w Fp as vs bs→CRo w Fp (a::as) (v::vs) bs
 | row {z es v ob as vs bs}:kJ w Fp z es v ob→CRo w Fp as vs bs→CRo w Fp (.row z es::as) (v::vs) (ob.toList++bs)
theorem CRo.length {w:World} {Fp:Nat→Prop} {as vs bs} (h:CRo w Fp as vs bs):as.length=vs.length:=by
 induction h<;>simp_all
theorem CRo.mono {w w':World} {Fp Fp':Nat→Prop} (hm:∀b,Fp b→Fp' b∧w'.heap[b]?=w.heap[b]?) {as vs bs} (h:CRo w Fp as vs bs) (hb:∀b∈bs,w'.heap[b]?=w.heap[b]?):CRo w' Fp' as vs bs:=by
 induction h with
 | nil=>exact .nil
 | im h1 h2 _ ih=>exact .im h1 (h2.mono hm) (ih hb)
 | row h1 _ ih=>exact .row (h1.mono hm fun b e=>hb b (List.mem_append_left _ (by rw [e];simp))) (ih fun b h=>hb b (List.mem_append_right _ h))
theorem CRo.freeze {w:World} {Fp:Nat→Prop} {as vs bs} (h:CRo w Fp as vs bs) (hb:∀b∈bs,Fp b):CRi w Fp as vs:=by
 induction h with
 | nil=>exact .nil
 | im _ h2 _ ih=>exact CRi.cons h2 (ih hb)
 | row h1 _ ih=>exact CRi.cons (h1.freeze fun b e=>hb b (List.mem_append_left _ (by rw [e];simp))) (ih fun b h=>hb b (List.mem_append_right _ h))
theorem CRo.get {w:World} {Fp:Nat→Prop} {as vs bs} (h:CRo w Fp as vs bs):∀{i:Nat} {a:AV},as[i]?=some a→∃v,vs[i]?=some v∧((∀z es,a≠ .row z es)→CRi w Fp [a] [v])∧
 ∀z es,a= .row z es→∃ob bs1 bs2,bs=bs1++(ob.toList++bs2)∧kJ w Fp z es v ob∧CRo w Fp (as.eraseIdx i) (vs.eraseIdx i) (bs1++bs2):=by
 induction h with
 | nil=>intro i a hi;simp at hi
 | @im a0 v0 as vs bs h1 h2 h3 ih=>
  intro i a hi
  cases i with
  | zero=>
   simp at hi;subst hi
   exact ⟨v0,rfl,fun _=>h2,fun z es e=>absurd e (h1 z es)⟩
  | succ i=>
   obtain ⟨v,k1,k2,k3⟩:=ih (i:=i) (a:=a) (by simpa using hi)
   refine ⟨v,by simpa using k1,k2,fun z es e=>?_⟩
   obtain ⟨ob,bs1,bs2,e1,e2,e3⟩:=k3 z es e
   exact ⟨ob,bs1,bs2,e1,e2,.im h1 h2 e3⟩
 | @row z0 es0 v0 ob0 as vs bs h1 h2 ih=>
  intro i a hi
  cases i with
  | zero=>
   simp at hi;subst hi
   exact ⟨v0,rfl,fun hn=>absurd rfl (hn z0 es0),fun z es e=>by
    cases e
    exact ⟨ob0,[],bs,rfl,h1,by simpa using h2⟩⟩
  | succ i=>
   obtain ⟨v,k1,k2,k3⟩:=ih (i:=i) (a:=a) (by simpa using hi)
   refine ⟨v,by simpa using k1,k2,fun z es e=>?_⟩
   obtain ⟨ob,bs1,bs2,e1,e2,e3⟩:=k3 z es e
   exact ⟨ob,ob0.toList++bs1,bs2,by rw [e1,List.append_assoc],e2,by
    have:=CRo.row h1 e3
    rw [←List.append_assoc] at this
    exact this⟩
theorem CRo.put {w:World} {Fp:Nat→Prop} {z:Nat} {es:List AV} {v:Value} {ob:Option Nat} (ho:kJ w Fp z es v ob):∀{as:List AV} {vs:List Value} {bs:List Nat} (i:Nat),i<as.length→as.length=vs.length→CRo w Fp (as.eraseIdx i) (vs.eraseIdx i) bs→
 ∃bs1 bs2,bs=bs1++bs2∧CRo w Fp (as.set i (.row z es)) (vs.set i v) (bs1++(ob.toList++bs2))
 | [],_,_,i,hi,_,_=>by simp at hi
 | a::as,[],_,_,_,hl,_=>by simp at hl
 | a::as,v0::vs,bs,0,_,_,h=>⟨[],bs,rfl,by simpa using CRo.row ho (by simpa using h)⟩
 | a::as,v0::vs,bs,i+1,hi,hl,h=>by
  simp only [List.eraseIdx_cons_succ] at h
  cases h with
  | im h1 h2 h3=>
   obtain ⟨bs1,bs2,e1,e2⟩:=CRo.put ho i (by simpa using hi) (by simpa using hl) h3
   exact ⟨bs1,bs2,e1,by simpa using CRo.im h1 h2 e2⟩
  | @row z0 es0 _ ob0 _ _ bs0 h1 h3=>
   obtain ⟨bs1,bs2,e1,e2⟩:=CRo.put ho i (by simpa using hi) (by simpa using hl) h3
   refine ⟨ob0.toList++bs1,bs2,by rw [e1,List.append_assoc],?_⟩
   have:=CRo.row h1 e2
   rw [←List.append_assoc] at this
   simpa using this
def Deep (w:World) (Fp:Nat→Prop) (k:Option Nat) (sz:Nat) (es:List AV) (v:Value) (us:List Value) (bs:List Nat):Prop:=
 (es=[]∧(∃x,v= .slice x 0 0)∧us=[]∧bs=[])∨
 ∃b off cap arr T fr rest ibs,v= .slice (some ⟨b,off,none⟩) es.length cap∧bs=b::ibs∧w.heap[b]?=some (.cells arr T fr)∧
  (∀i<arr.size,¬(fr.1≤i∧i<fr.2))∧(∀e∈es,e.cells.length=sz)∧arr.toList.drop off=us++rest∧
  (match k with | none=>CRo w Fp (es.flatMap AV.cells) us ibs | some p=>p<us.length∧(es.flatMap AV.cells).length=us.length∧CRo w Fp ((es.flatMap AV.cells).eraseIdx p) (us.eraseIdx p) ibs)∧es.length≤cap∧off+cap*sz≤arr.size
theorem Deep.mono {w w':World} {Fp Fp':Nat→Prop} {k sz es v us bs} (hm:∀b,Fp b→Fp' b∧w'.heap[b]?=w.heap[b]?) (hb:∀b∈bs,w'.heap[b]?=w.heap[b]?)
 (h:Deep w Fp k sz es v us bs):Deep w' Fp' k sz es v us bs:=by
 rcases h with h | ⟨b,off,cap,arr,T,fr,rest,ibs,hv,ho,hh,hf,hs,hd,hc,hl,hr⟩
 ·exact .inl h
 ·refine .inr ⟨b,off,cap,arr,T,fr,rest,ibs,hv,ho,(hb b (by rw [ho];simp)).trans hh,hf,hs,hd,?_,hl,hr⟩
  cases k with
  | none=>exact CRo.mono hm hc fun x hx=>hb x (by rw [ho];exact List.mem_cons_of_mem _ hx)
  | some p=>exact ⟨hc.1,hc.2.1,hc.2.2.mono hm fun x hx=>hb x (by rw [ho];exact List.mem_cons_of_mem _ hx)⟩
theorem Deep.freeze {w:World} {Fp:Nat→Prop} {sz es v us bs} (h:Deep w Fp none sz es v us bs) (hb:∀b∈bs,Fp b):CRi w Fp [.row sz es] [v]:=by
 rcases h with ⟨rfl,⟨x,rfl⟩,_⟩ | ⟨b,off,cap,arr,T,fr,rest,ibs,rfl,ho,hh,hf,hs,hd,hc,hl,hr⟩
 ·exact .gy .nil
 ·exact .row (hb b (by rw [ho];simp)) hh hs hd ⟨hl,.inl hr⟩ (CRo.freeze hc fun x hx=>hb x (by rw [ho];exact List.mem_cons_of_mem _ hx)) .nil
inductive nD where
 | root (o:Nat)
 | cell (o c:Nat)
 | det (k:Nat)
 | tr (x:Bool)
 deriving DecidableEq
def nD.loose:nD→Bool
 | .det _ | .tr _=>true
 | _=>false
structure Wit where
 F:Nat→Nat→Prop
 vals:Nat→List Value
 blk:Nat→Nat
 fp:Nat→Nat→Option Nat
 us:Nat→Nat→List Value
 own:Nat→Option nD
structure Base where
 w0:World
 F:Nat→Nat→Prop
 iZ:Nat→Prop
 nt:Nat
 alc:Nat→Nat
 ais:Nat→List Value
 tre:Nat→Prop
def BOK (gs:List (Nat×(Array Value→Prop))) (B:Base):Prop:=
 Lim.n≤B.w0.heap.size∧∀p∈gs,p.1<B.w0.heap.size∧¬B.iZ p.1∧∃arr T fr,B.w0.heap[p.1]?=some (.cells arr T fr)∧p.2 arr
def Loose (W W':Wit):Prop:=∀b y,y.loose=true→W.own b=some y→W'.own b=some y
omit [Lim] in
theorem Loose.refl (W:Wit):Loose W W:=fun _ _ _ h=>h
omit [Lim] in
theorem Loose.trans {W W' W'':Wit} (h:Loose W W') (h':Loose W' W''):Loose W W'':=fun b y hy hb=>h' b y hy (h b y hy hb)
def TrK (w w':World) (W W':Wit):Prop:=
 (∀b,W.own b=some (.tr false)→W'.own b=some (.tr false)∧w'.heap[b]?=w.heap[b]?)∧
 (∀b,W.own b=some (.tr true)→W'.own b=some (.tr true)∧MC (w.heap[b]?) (w'.heap[b]?))
omit [Lim] in
theorem TrK.of {w w':World} {W W':Wit} (h:∀x b,W.own b=some (.tr x)→W'.own b=some (.tr x)∧w'.heap[b]?=w.heap[b]?):TrK w w' W W':=
 ⟨fun b hb=>h false b hb,fun b hb=>⟨(h true b hb).1,.inl (h true b hb).2⟩⟩
omit [Lim] in
theorem TrK.loose {w:World} {W W':Wit} (h:Loose W W'):TrK w w W W':=TrK.of fun x b hb=>⟨h b _ rfl hb,rfl⟩
omit [Lim] in
theorem TrK.refl (w:World) (W:Wit):TrK w w W W:=TrK.loose (Loose.refl W)
def tg (t:Nat):Nat:=min t 2
def GH (w:World) (W:Wit) (o c:Nat):Cell→Value→Prop
 | ⟨.imm,_,t,a⟩,v=>CRi w (W.F (tg (dm t a))) [a] [v]
 | ⟨.sh,_,t,.row sz es⟩,v=>kJ w (W.F (tg t)) sz es v (W.fp o c)∧∀b,W.fp o c=some b→W.own b=some (.cell o c)
 | ⟨.sh,_,_,_⟩,_=>False
 | ⟨.gone,_,_,_⟩,_=>True
 | ⟨.dp _,_,t,.row sz es⟩,v=>∃bs,Deep w (W.F (tg t)) none sz es v (W.us o c) bs∧bs.Nodup∧∀b∈bs,W.own b=some (.cell o c)
 | ⟨.dp _,_,_,_⟩,_=>False
 | ⟨.dd _ i j,_,t,.row sz es⟩,v=>∃bs,Deep w (W.F (tg t)) (some (i*sz+j)) sz es v (W.us o c) bs∧bs.Nodup∧∀b∈bs,W.own b=some (.cell o c)
 | ⟨.dd ..,_,_,_⟩,_=>False
 | ⟨.ws,_,_,a⟩,v=>CRs w (fun b=>W.own b=some (.tr true)) [a] [v]
 | ⟨.fr,_,_,a⟩,v=>CRi w (fun b=>W.own b=some (.tr false)) [a] [v]
structure Jq (w:World) (W:Wit) (o:Nat) (ob:Obj):Prop where
 len:(W.vals o).length=ob.cs.length
 cells:∀(c:Nat) x v,ob.cs[c]?=some x→(W.vals o)[c]?=some v→GH w W o c x v
 mem:ob.mem=true→∃arr T fr,w.heap[W.blk o]?=some (.cells arr T fr)∧arr.toList=W.vals o∧(∀i<arr.size,¬(fr.1≤i∧i<fr.2))∧
  (ob.fz=false→W.own (W.blk o)=some (.root o))∧(ob.fz=true→W.F 0 (W.blk o))
 fz:ob.fz=true→∀x∈ob.cs,x.m= .imm∨x.m= .gone
 ctr:∀x∈ob.cs,x.s≤ob.ctr
def RR (w:World) (W:Wit) (L:Nat→Option Obj):RV→Value→Prop
 | .im t a,v=>CRi w (W.F (tg (dm t a))) [a] [v]
 | .nil,v=>v= .slice none 0 0
 | .own o s c,v=>∃ob,L o=some ob∧s≤ob.ctr∧∀x,ob.cs[c]?=some x→x.s=s→(W.vals o)[c]?=some v
 | .sub o s c lo hi,v=>∃ob,L o=some ob∧s≤ob.ctr∧∀x,ob.cs[c]?=some x→x.s=s→x.m≠ .gone→∀sz es,x.a= .row sz es→
  lo≤hi∧hi≤es.length∧∃a cap,(W.vals o)[c]?=some (.slice a es.length cap)∧
   ((cap=0∧v= .slice a 0 0)∨∃b off,a=some ⟨b,off,none⟩∧hi≤cap∧v= .slice (some ⟨b,if cap=lo then off else off+lo*sz,none⟩) (hi - lo) (cap - lo))
 | .mp o s off,v=>∃ob,L o=some ob∧s≤ob.gen∧(ob.gen=s→ob.mem=true∧v= .pointer (some ⟨W.blk o,off,none⟩))
 | .mpe o s c i off,v=>∃ob,L o=some ob∧s≤ob.ctr∧∀x,ob.cs[c]?=some x→x.s=s→x.m≠ .gone→∀sz es,x.a= .row sz es→
  i<es.length∧∃b ik cap,(W.vals o)[c]?=some (.slice (some ⟨b,ik,none⟩) es.length cap)∧v= .pointer (some ⟨b,ik+i*sz+off,none⟩)
 | .inr o s c i j n,v=>∃ob,L o=some ob∧s≤ob.ctr∧∀x,ob.cs[c]?=some x→x.s=s→(∀k,x.m.cnt=some k→n≤k)∧(x.m.pin n i j→∀sz es,x.a= .row sz es→(W.us o c)[i*sz+j]?=some v)
 | .qC,_=>True
 | .fr a,v=>CRi w (fun b=>W.own b=some (.tr false)) [a] [v]
 | .ws a,v=>CRs w (fun b=>W.own b=some (.tr true)) [a] [v]
inductive RRs (w:World) (W:Wit) (L:Nat→Option Obj):List RV→List Value→Prop
 | nil:RRs w W L [] []
 | cons {r rs v vs}:RR w W L r v→RRs w W L rs vs→RRs w W L (r::rs) (v::vs)
def Dy (w:World) (W:Wit) (L:Nat→Option Obj) (x:Bool×List RV) (v:Value):Prop:=
 (x.1=true∧∃vs,v= .agg vs∧RRs w W L x.2 vs.toList)∨(x.1=false∧∃r,x.2=[r]∧RR w W L r v)
inductive sV (w:World) (W:Wit) (L:Nat→Option Obj):List (Bool×List RV)→List Value→Prop
 | nil:sV w W L [] []
 | cons {x xs v vs}:Dy w W L x v→sV w W L xs vs→sV w W L (x::xs) (v::vs)
def SR (w:World) (W:Wit) (L:Nat→Option Obj):SV→Value→Prop
 | .v ag cs,v=>Dy w W L (ag,cs) v
 | .fn f cs,v=>∃vs,v= .func (.func f) #[] vs∧RRs w W L cs vs.toList
 | .tup xs,v=>∃vs,v= .tuple vs∧sV w W L xs vs.toList
structure Rel (B:Base) (st:St) (a:Act) (w:World) (W:Wit):Prop where
 f01:∀b,W.F 0 b→W.F 1 b
 f12:∀b,W.F 1 b→W.F 2 b
 fb:∀t b,B.F t b→W.F t b
 I9:∀t b,W.F t b→B.F t b∨B.w0.heap.size≤b∨B.iZ b
 qF:∀b,W.F 2 b→W.own b=none
 flt:∀b,W.F 2 b→b<w.heap.size
 olt:∀b x,W.own b=some x→b<w.heap.size∧(B.w0.heap.size≤b∨B.iZ b)
 iJ:∀o ob,st.L o=some ob→Jq w W o ob
 slots:∀t,SR w W st.L (st.sl t) (a.tmps.getD t undef)
 frame:∀b,b<B.w0.heap.size→¬B.iZ b→w.heap[b]?=B.w0.heap[b]?
 size:B.w0.heap.size≤w.heap.size
 io:w.os=B.w0.os∧w.output=B.w0.output
 par:∀o ob,st.L o=some ob→ob.io=true→W.blk o=B.alc o∧(ob.mem=false→W.vals o=B.ais o)
 defers:a.defers=[]
 tmps:a.tmps.size=B.nt
 uf:∀b,W.F 2 b→B.F 2 b∨Dx w b
 ouf:∀b x,W.own b=some x→Dx w b
 tsh:∀b,B.tre b→W.own b=some (.tr true)∧MC (B.w0.heap[b]?) (w.heap[b]?)
end Go.Sim
