/- The arguments of a row: a reading of them gives typed values and cells that stay. Conditions: none. -/
import Derived.Test.YtjejfolfomknaaaSimRg
import Derived.ChangeArms
import Derived.ChangeStays
import Derived.ChangeSame
import Derived.OpenShut
namespace Go.Sim
open Go.Pw
set_option linter.unusedSimpArgs false
set_option linter.unusedVariables false
abbrev YC (w:World):List AV→List Value→Prop:=@CRi ⟨w.heap.size⟩ w (fun b=>b<w.heap.size)
def Pv (P:Program) (t:TypeId) {α:Type} (en:α→List AV) (ok:α→Prop):Prop:=
 ∀(H:Type) (enc:TypeId×Value→H) (w:World) (fuel:Nat) (cs:List Value) (x:DataW H×List MemPlace),DataW.trod enc P w 0 (fun _=>true) true fuel t cs=some x→∃a,YC w (en a) cs∧ok a
variable {P:Program} {t e:TypeId} {α β γ:Type} {en:α→List AV} {ok:α→Prop}
theorem JD {k:IntKind} (ht:P.underlying t=some (.int k)):Pv P t (fun n:Int=>[.sc (.int k n)]) (fun n=>(Lit.int k n).wf=true):=by
 intro H enc w fuel cs x h
 letI:Lim:=⟨w.heap.size⟩
 obtain ⟨n,rfl,_,hw⟩:=DataW.trod_int ht h
 exact ⟨n,.sc rfl .nil,hw⟩
theorem Oj {w:World} {a:Addr} {i sz:Nat} {us:List Value} {arr:Array Value} {T:TypeId} {fr:Nat×Nat} (hsz:0<sz) (hb:w.heap[a.block]?=some (.cells arr T fr)) (h:w.cells? 0 (a.add (i*sz)) sz=some us):
 (arr.toList.drop (a.off+i*sz)).take sz=us:=by
 obtain ⟨_,hl,hc⟩:=World.cells?_some h
 have key:∀j,j<sz→arr[a.off+i*sz+j]?=us[j]?:=by
  intro j hj
  have:=hc j hj
  rw [←this]
  have hs:j<us.length:=by omega
  have hsome:w.cell? ((a.add (i*sz)).add j)≠none:=by rw [this,List.getElem?_eq_getElem hs];simp
  simp only [World.cell?] at hsome ⊢
  have e1:((a.add (i*sz)).add j).block=a.block:=by simp only [Addr.add];split<;>split<;>rfl
  have e2:((a.add (i*sz)).add j).off=a.off+i*sz+j:=by simp only [Addr.add];split<;>split<;>(try simp only)<;>omega
  rw [e1,hb] at hsome ⊢
  simp only at hsome ⊢
  split at hsome
  ·exact absurd rfl hsome
  ·rename_i hn
   rw [if_neg hn,e2]
 apply List.ext_getElem?
 intro j
 by_cases hj:j<sz
 ·rw [List.getElem?_take_of_lt hj,List.getElem?_drop,←key j hj];simp
 ·rw [List.getElem?_eq_none (by simp;omega),List.getElem?_eq_none (by omega)]
theorem CRi.app [Lim] {w:World} {Fp:Nat→Prop} {as bs:List AV} {us vs:List Value} (h:CRi w Fp as us) (h':CRi w Fp bs vs):CRi w Fp (as++bs) (us++vs):=by
 induction h with
 | nil=>exact h'
 | sc hp _ ih=>exact .sc hp ih
 | dO _ ih=>exact .dO ih
 | row h1 h2 h3 h4 h5 h6 _ _ ih=>exact .row h1 h2 h3 h4 h5 h6 ih
 | cp h1 h2 h3 h4 _ _ ih=>exact .cp h1 h2 h3 h4 ih
 | clo h1 _ _ ih=>exact .clo h1 ih
theorem FU {sz:Nat} {ee:α→AV} (ht:P.underlying t=some (.slice e)) (hz:P.cellsOf e=sz) (hsz:0<sz) (he:∀a,(ee a).cells=en a) (hn:∀a,(en a).length=sz) (o:Pv P e en ok):
 Pv P t (fun L:List α=>[.row sz (L.map ee)]) (fun L=>(∀a∈L,ok a)∧L.length≤maxLen):=by
 intro H enc w fuel cs x h
 letI:Lim:=⟨w.heap.size⟩
 rcases DataW.trod_slice ht h with ⟨rfl,_⟩ | ⟨a,len,cap,elems,rest,n,rfl,rfl,_,_,hlc,hcm,hel,hget,hsp,_⟩
 ·exact ⟨[],.dO .nil,(fun _ h=>by cases h),Nat.zero_le _⟩
 subst hz
 obtain ⟨hrl,hrest⟩:=hsp rfl
 by_cases hc0:cap=0
 ·obtain rfl:len=0:=by omega
  subst hc0
  exact ⟨[],.dO .nil,(fun _ h=>by cases h),Nat.zero_le _⟩
 have h0:∃us,w.cells? 0 (a.add (0*P.cellsOf e)) (P.cellsOf e)=some us:=by
  by_cases hl0:0<len
  ·have:=hget 0 hl0
   rw [List.getElem?_eq_getElem (by omega)] at this
   obtain ⟨us,h1,_⟩:=Option.bind_eq_some_iff.1 this
   exact ⟨us,h1⟩
  ·have hl1:len=0:=by omega
   have:=hrest 0 (by omega)
   rw [List.getElem?_eq_getElem (by omega)] at this
   obtain ⟨us,h1,_⟩:=Option.bind_eq_some_iff.1 this
   exact ⟨us,by rw [←h1,hl1]⟩
 obtain ⟨us0,h0⟩:=h0
 obtain ⟨_,hl0,hg0⟩:=World.cells?_some h0
 have hb:∃arr T fr,w.heap[a.block]?=some (.cells arr T fr)∧a.spot=none:=by
  have h1:=hg0 0 hsz
  rw [List.getElem?_eq_getElem (by omega)] at h1
  simp only [Nat.zero_mul,Addr.add,if_true,World.cell?] at h1
  split at h1
  ·rename_i c T fr hh
   split at h1
   ·cases h1
   ·rename_i hs
    exact ⟨c,T,fr,hh,by simpa using hs⟩
  ·cases h1
 obtain ⟨arr,T,fr,hb,hspot⟩:=hb
 have main:∀k,k≤len→∃L:List α,L.length=k∧YC w (L.flatMap en) ((arr.toList.drop a.off).take (k*P.cellsOf e))∧∀a∈L,ok a:=by
  intro k
  induction k with
  | zero=>intro _;exact ⟨[],rfl,by simpa using CRi.nil,fun _ h=>by cases h⟩
  | succ k ih=>
   intro hk
   obtain ⟨L,h1,h2,h3⟩:=ih (by omega)
   have h4:=hget k (by omega)
   rw [List.getElem?_eq_getElem (by omega)] at h4
   obtain ⟨us,h5,h6⟩:=Option.bind_eq_some_iff.1 h4
   obtain ⟨y,h7,h8⟩:=o H enc w n us _ h6
   refine ⟨L++[y],by simp [h1],?_,?_⟩
   ·rw [List.flatMap_append,Nat.add_mul,Nat.one_mul,List.take_add,List.drop_drop]
    refine h2.app ?_
    rw [Oj hsz hb h5]
    simpa using h7
   ·intro z hz
    rcases List.mem_append.1 hz with hz | hz
    ·exact h3 z hz
    ·rw [List.mem_singleton.1 hz];exact h8
 obtain ⟨L,h1,h2,h3⟩:=main len (Nat.le_refl _)
 refine ⟨L,?_,h3,by omega⟩
 have ha:a=⟨a.block,a.off,none⟩:=by cases a;simp_all
 have hbl:a.block<w.heap.size:=by
  rcases Nat.lt_or_ge a.block w.heap.size with h' | h'
  ·exact h'
  ·rw [Array.getElem?_eq_none h'] at hb;cases hb
 have hLm:(L.map ee).length=len:=by simpa using h1
 rw [ha,←hLm]
 refine CRi.row (us:=(arr.toList.drop a.off).take (len*P.cellsOf e)) (rest:=(arr.toList.drop a.off).drop (len*P.cellsOf e)) hbl hb ?_ (List.take_append_drop _ _).symm ⟨by omega,.inr hbl⟩ ?_ .nil
 ·intro z hz
  obtain ⟨y,_,rfl⟩:=List.mem_map.1 hz
  rw [he];exact hn y
 ·have:(L.map ee).flatMap AV.cells=L.flatMap en:=by
   clear h1 h2 h3 hLm
   induction L with
   | nil=>rfl
   | cons y L ih=>rw [List.map_cons,List.flatMap_cons,List.flatMap_cons,he,ih]
  rw [this];exact h2
end Go.Sim
