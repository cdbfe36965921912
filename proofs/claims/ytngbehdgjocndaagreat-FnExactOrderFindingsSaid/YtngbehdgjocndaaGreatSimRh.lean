/- The arguments of a row: a reading of them gives typed values and cells that stay. Conditions: none. -/
import Derived.Test.YtngbehdgjocndaaGreatSimRg
import Derived.ChangeArms
import Derived.ChangeStays
import Derived.ChangeSame
import Derived.OpenShut
namespace Go.Sim
open Go.Pw
set_option linter.unusedSimpArgs false
set_option linter.unusedVariables false
abbrev akY (w:World):List AV→List Value→Prop:=@CRi ⟨w.heap.size⟩ w (fun b=>b<w.heap.size)
def y7 (P:Program) (t:TypeId) {α:Type} (en:α→List AV) (ok:α→Prop):Prop:=
 ∀(H:Type) (enc:TypeId×Value→H) (w:World) (fuel:Nat) (cs:List Value) (x:DataW H×List MemPlace),DataW.trod enc P w 0 (fun _=>true) true fuel t cs=some x→∃a,akY w (en a) cs∧ok a
variable {P:Program} {t e:TypeId} {α β γ:Type} {en:α→List AV} {ok:α→Prop}
theorem dY {k:IntKind} (ht:P.underlying t=some (.int k)):y7 P t (fun n:Int=>[.sc (.int k n)]) (fun n=>(Lit.int k n).wf=true):=by
 intro H enc w fuel cs x h
 letI:Lim:=⟨w.heap.size⟩
 obtain ⟨n,rfl,_,hw⟩:=DataW.trod_int ht h
 exact ⟨n,.sc rfl .nil,hw⟩
theorem BQ (ht:P.underlying t=some .string):y7 P t (fun s:ByteArray=>[.sc (.string s)]) (fun s=>s.size≤maxLen):=by
 intro H enc w fuel cs x h
 letI:Lim:=⟨w.heap.size⟩
 obtain ⟨n,rfl,_,hs⟩:=DataW.trod_string ht h
 exact ⟨n,.sc rfl .nil,hs⟩
theorem sU {en':β→List AV} {ok':β→Prop} (g:α→β) (o:y7 P t en ok) (h1:∀a,en' (g a)=en a) (h2:∀a,ok a→ok' (g a)):y7 P t en' ok':=by
 intro H enc w fuel cs x h
 letI:Lim:=⟨w.heap.size⟩
 obtain ⟨a,k1,k2⟩:=o H enc w fuel cs x h
 exact ⟨g a,by rw [h1];exact k1,h2 a k2⟩
theorem Zn {w:World} {a:Addr} {i sz:Nat} {us:List Value} {arr:Array Value} {T:TypeId} {fr:Nat×Nat} (hsz:0<sz) (hb:w.heap[a.block]?=some (.cells arr T fr)) (h:w.cells? 0 (a.add (i*sz)) sz=some us):
 (arr.toList.drop (a.off+i*sz)).take sz=us:=by
 obtain ⟨_,hl,hc⟩:=World.cells?_some h
 have key:∀j,j<sz→arr[a.off+i*sz+j]?=us[j]?:=by
  intro j hj
  have:=hc j hj
  rw [←this]
  have hs:j<us.length:=by omega
  have hsome:w.cell? ((a.add (i*sz)).add j)≠none:=by rw [this,List.getElem?_eq_getElem hs];simp
  simp only [World.cell?] at hsome ⊢
  have e1:((a.add (i*sz)).add j).block=a.block:=by simp only [Addr.add];split<;>split<;>rfl
  have e2:((a.add (i*sz)).add j).off=a.off+i*sz+j:=by simp only [Addr.add];split<;>split<;>(try simp only)<;>omega
  rw [e1,hb] at hsome ⊢
  simp only at hsome ⊢
  split at hsome
  ·exact absurd rfl hsome
  ·rename_i hn
   rw [if_neg hn,e2]
 apply List.ext_getElem?
 intro j
 by_cases hj:j<sz
 ·rw [List.getElem?_take_of_lt hj,List.getElem?_drop,←key j hj];simp
 ·rw [List.getElem?_eq_none (by simp;omega),List.getElem?_eq_none (by omega)]
theorem CRi.app [Lim] {w:World} {Fp:Nat→Prop} {as bs:List AV} {us vs:List Value} (h:CRi w Fp as us) (h':CRi w Fp bs vs):CRi w Fp (as++bs) (us++vs):=by
 induction h with
 | nil=>exact h'
 | sc hp _ ih=>exact .sc hp ih
 | gy _ ih=>exact .gy ih
 | row h1 h2 h3 h4 h5 h6 _ _ ih=>exact .row h1 h2 h3 h4 h5 h6 ih
 | cp h1 h2 h3 h4 _ _ ih=>exact .cp h1 h2 h3 h4 ih
 | clo h1 _ _ ih=>exact .clo h1 ih
theorem oC {sz:Nat} {ee:α→AV} (ht:P.underlying t=some (.slice e)) (hz:P.cellsOf e=sz) (hsz:0<sz) (he:∀a,(ee a).cells=en a) (hn:∀a,(en a).length=sz) (o:y7 P e en ok):
 y7 P t (fun L:List α=>[.row sz (L.map ee)]) (fun L=>(∀a∈L,ok a)∧L.length≤maxLen):=by
 intro H enc w fuel cs x h
 letI:Lim:=⟨w.heap.size⟩
 rcases DataW.trod_slice ht h with ⟨rfl,_⟩ | ⟨a,len,cap,elems,rest,n,rfl,rfl,_,_,hlc,hcm,hel,hget,hsp,_⟩
 ·exact ⟨[],.gy .nil,(fun _ h=>by cases h),Nat.zero_le _⟩
 subst hz
 obtain ⟨hrl,hrest⟩:=hsp rfl
 by_cases hc0:cap=0
 ·obtain rfl:len=0:=by omega
  subst hc0
  exact ⟨[],.gy .nil,(fun _ h=>by cases h),Nat.zero_le _⟩
 have h0:∃us,w.cells? 0 (a.add (0*P.cellsOf e)) (P.cellsOf e)=some us:=by
  by_cases hl0:0<len
  ·have:=hget 0 hl0
   rw [List.getElem?_eq_getElem (by omega)] at this
   obtain ⟨us,h1,_⟩:=Option.bind_eq_some_iff.1 this
   exact ⟨us,h1⟩
  ·have hl1:len=0:=by omega
   have:=hrest 0 (by omega)
   rw [List.getElem?_eq_getElem (by omega)] at this
   obtain ⟨us,h1,_⟩:=Option.bind_eq_some_iff.1 this
   exact ⟨us,by rw [←h1,hl1]⟩
 obtain ⟨us0,h0⟩:=h0
 obtain ⟨_,hl0,hg0⟩:=World.cells?_some h0
 have hb:∃arr T fr,w.heap[a.block]?=some (.cells arr T fr)∧a.spot=none:=by
  have h1:=hg0 0 hsz
  rw [List.getElem?_eq_getElem (by omega)] at h1
  simp only [Nat.zero_mul,Addr.add,if_true,World.cell?] at h1
  split at h1
  ·rename_i c T fr hh
   split at h1
   ·cases h1
   ·rename_i hs
    exact ⟨c,T,fr,hh,by simpa using hs⟩
  ·cases h1
 obtain ⟨arr,T,fr,hb,hspot⟩:=hb
 have main:∀k,k≤len→∃L:List α,L.length=k∧akY w (L.flatMap en) ((arr.toList.drop a.off).take (k*P.cellsOf e))∧∀a∈L,ok a:=by
  intro k
  induction k with
  | zero=>intro _;exact ⟨[],rfl,by simpa using CRi.nil,fun _ h=>by cases h⟩
  | succ k ih=>
   intro hk
   obtain ⟨L,h1,h2,h3⟩:=ih (by omega)
   have h4:=hget k (by omega)
   rw [List.getElem?_eq_getElem (by omega)] at h4
   obtain ⟨us,h5,h6⟩:=Option.bind_eq_some_iff.1 h4
   obtain ⟨y,h7,h8⟩:=o H enc w n us _ h6
   refine ⟨L++[y],by simp [h1],?_,?_⟩
   ·rw [List.flatMap_append,Nat.add_mul,Nat.one_mul,List.take_add,List.drop_drop]
    refine h2.app ?_
    rw [Zn hsz hb h5]
    simpa using h7
   ·intro z hz
    rcases List.mem_append.1 hz with hz | hz
    ·exact h3 z hz
    ·rw [List.mem_singleton.1 hz];exact h8
 obtain ⟨L,h1,h2,h3⟩:=main len (Nat.le_refl _)
 refine ⟨L,?_,h3,by omega⟩
 have ha:a=⟨a.block,a.off,none⟩:=by cases a;simp_all
 have hbl:a.block<w.heap.size:=by
  rcases Nat.lt_or_ge a.block w.heap.size with h' | h'
  ·exact h'
  ·rw [Array.getElem?_eq_none h'] at hb;cases hb
 have hLm:(L.map ee).length=len:=by simpa using h1
 rw [ha,←hLm]
 refine CRi.row (us:=(arr.toList.drop a.off).take (len*P.cellsOf e)) (rest:=(arr.toList.drop a.off).drop (len*P.cellsOf e)) hbl hb ?_ (List.take_append_drop _ _).symm ⟨by omega,.inr hbl⟩ ?_ .nil
 ·intro z hz
  obtain ⟨y,_,rfl⟩:=List.mem_map.1 hz
  rw [he];exact hn y
 ·have:(L.map ee).flatMap AV.cells=L.flatMap en:=by
   clear h1 h2 h3 hLm
   induction L with
   | nil=>rfl
   | cons y L ih=>rw [List.map_cons,List.flatMap_cons,List.flatMap_cons,he,ih]
  rw [this];exact h2
def V9 (P:Program) (fs:List Field) (off:Nat) {α:Type} (en:α→List AV) (ok:α→Prop):Prop:=
 ∀(H:Type) (enc:TypeId×Value→H) (w:World) (n:Nat) (cs:List Value),cs.length=off+(fs.map fun f=>P.cellsOf f.type).sum→
  (∀f∈fs,∃x,DataW.trod enc P w 0 (fun _=>true) true n f.type ((cs.drop f.offset).take (P.cellsOf f.type))=some x)→∃a,akY w (en a) (cs.drop off)∧ok a
theorem oU {off:Nat}:V9 P [] off (fun _:Unit=>[]) (fun _=>True):=by
 intro H enc w n cs hl _
 letI:Lim:=⟨w.heap.size⟩
 refine ⟨(),?_,trivial⟩
 rw [List.drop_eq_nil_of_le (by simp at hl;omega)]
 exact .nil
theorem bn {f:Field} {fs:List Field} {off s:Nat} {en2:β→List AV} {ok2:β→Prop} (hs:P.cellsOf f.type=s) (ho:f.offset=off) (o:y7 P f.type en ok) (o2:V9 P fs (off+s) en2 ok2):
 V9 P (f::fs) off (fun p:α×β=>en p.1++en2 p.2) (fun p=>ok p.1∧ok2 p.2):=by
 intro H enc w n cs hl h
 letI:Lim:=⟨w.heap.size⟩
 subst hs ho
 obtain ⟨x,hx⟩:=h f (by simp)
 obtain ⟨a,k1,k2⟩:=o H enc w n _ _ hx
 obtain ⟨b,k3,k4⟩:=o2 H enc w n cs (by rw [hl];simp;omega) (fun g hg=>h g (by simp [hg]))
 refine ⟨(a,b),?_,k2,k4⟩
 rw [←List.take_append_drop (P.cellsOf f.type) (cs.drop f.offset),List.drop_drop]
 exact k1.app k3
theorem kG {fs:Array Field} (ht:P.underlying t=some (.struct fs)) (hz:P.cellsOf t=(fs.toList.map fun f=>P.cellsOf f.type).sum) (o:V9 P fs.toList 0 en ok):y7 P t en ok:=by
 intro H enc w fuel cs x h
 letI:Lim:=⟨w.heap.size⟩
 obtain ⟨xs,n,rfl,_,hl,hxl,hget⟩:=DataW.trod_struct ht h
 obtain ⟨a,k1,k2⟩:=o H enc w n cs (by rw [hl,hz];simp) (fun f hf=>by
  obtain ⟨i,hi⟩:=List.getElem?_of_mem hf
  have h1:=hget i f (by simpa using hi)
  have hi':i<xs.length:=by
   rw [hxl]
   rcases Nat.lt_or_ge i fs.size with h' | h'
   ·exact h'
   ·rw [List.getElem?_eq_none (by simpa using h')] at hi;cases hi
  exact ⟨xs[i],by rw [h1,List.getElem?_eq_getElem hi']⟩)
 exact ⟨a,by simpa using k1,k2⟩
end Go.Sim
