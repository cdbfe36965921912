/- The arguments of a row: a reading of them gives typed values and cells that stay. Conditions: none. -/
import Derived.Test.YthdegfgajfgggaaDoorSimRg
import Derived.ChangeArms
import Derived.ChangeStays
import Derived.ChangeSame
import Derived.OpenShut
namespace Go.Sim
open Go.Pw
set_option linter.unusedSimpArgs false
set_option linter.unusedVariables false
abbrev Stay (w:World):List AV→List Value→Prop:=CRi w (fun b=>b<w.heap.size)
def Opens (P:Program) (t:TypeId) {α:Type} (en:α→List AV) (ok:α→Prop):Prop:=
 ∀(H:Type) (enc:TypeId×Value→H) (w:World) (fuel:Nat) (cs:List Value) (x:DataW H×List MemPlace),DataW.trod enc P w 0 (fun _=>true) true fuel t cs=some x→∃a,Stay w (en a) cs∧ok a
variable {P:Program} {t e:TypeId} {α β γ:Type} {en:α→List AV} {ok:α→Prop}
theorem opens_int {k:IntKind} (ht:P.underlying t=some (.int k)):Opens P t (fun n:Int=>[.sc (.int k n)]) (fun n=>(Lit.int k n).wf=true):=by
 intro H enc w fuel cs x h
 obtain ⟨n,rfl,_,hw⟩:=DataW.trod_int ht h
 exact ⟨n,.sc rfl .nil,hw⟩
theorem opens_map {en':β→List AV} {ok':β→Prop} (g:α→β) (o:Opens P t en ok) (h1:∀a,en' (g a)=en a) (h2:∀a,ok a→ok' (g a)):Opens P t en' ok':=by
 intro H enc w fuel cs x h
 obtain ⟨a,k1,k2⟩:=o H enc w fuel cs x h
 exact ⟨g a,by rw [h1];exact k1,h2 a k2⟩
theorem CRi.app {w:World} {Fp:Nat→Prop} {as bs:List AV} {us vs:List Value} (h:CRi w Fp as us) (h':CRi w Fp bs vs):CRi w Fp (as++bs) (us++vs):=by
 induction h with
 | nil=>exact h'
 | sc hp _ ih=>exact .sc hp ih
 | nilrow _ ih=>exact .nilrow ih
 | row h1 h2 h3 h4 h5 h6 _ _ ih=>exact .row h1 h2 h3 h4 h5 h6 ih
 | cp h1 h2 h3 h4 _ _ ih=>exact .cp h1 h2 h3 h4 ih
 | clo h1 _ _ ih=>exact .clo h1 ih
def OpensF (P:Program) (fs:List Field) (off:Nat) {α:Type} (en:α→List AV) (ok:α→Prop):Prop:=
 ∀(H:Type) (enc:TypeId×Value→H) (w:World) (n:Nat) (cs:List Value),cs.length=off+(fs.map fun f=>P.cellsOf f.type).sum→
  (∀f∈fs,∃x,DataW.trod enc P w 0 (fun _=>true) true n f.type ((cs.drop f.offset).take (P.cellsOf f.type))=some x)→∃a,Stay w (en a) (cs.drop off)∧ok a
theorem opensF_nil {off:Nat}:OpensF P [] off (fun _:Unit=>[]) (fun _=>True):=by
 intro H enc w n cs hl _
 refine ⟨(),?_,trivial⟩
 rw [List.drop_eq_nil_of_le (by simp at hl;omega)]
 exact .nil
theorem opensF_cons {f:Field} {fs:List Field} {off s:Nat} {en2:β→List AV} {ok2:β→Prop} (hs:P.cellsOf f.type=s) (ho:f.offset=off) (o:Opens P f.type en ok) (o2:OpensF P fs (off+s) en2 ok2):
 OpensF P (f::fs) off (fun p:α×β=>en p.1++en2 p.2) (fun p=>ok p.1∧ok2 p.2):=by
 intro H enc w n cs hl h
 subst hs ho
 obtain ⟨x,hx⟩:=h f (by simp)
 obtain ⟨a,k1,k2⟩:=o H enc w n _ _ hx
 obtain ⟨b,k3,k4⟩:=o2 H enc w n cs (by rw [hl];simp;omega) (fun g hg=>h g (by simp [hg]))
 refine ⟨(a,b),?_,k2,k4⟩
 rw [←List.take_append_drop (P.cellsOf f.type) (cs.drop f.offset),List.drop_drop]
 exact k1.app k3
theorem opens_struct {fs:Array Field} (ht:P.underlying t=some (.struct fs)) (hz:P.cellsOf t=(fs.toList.map fun f=>P.cellsOf f.type).sum) (o:OpensF P fs.toList 0 en ok):Opens P t en ok:=by
 intro H enc w fuel cs x h
 obtain ⟨xs,n,rfl,_,hl,hxl,hget⟩:=DataW.trod_struct ht h
 obtain ⟨a,k1,k2⟩:=o H enc w n cs (by rw [hl,hz];simp) (fun f hf=>by
  obtain ⟨i,hi⟩:=List.getElem?_of_mem hf
  have h1:=hget i f (by simpa using hi)
  have hi':i<xs.length:=by
   rw [hxl]
   rcases Nat.lt_or_ge i fs.size with h' | h'
   ·exact h'
   ·rw [List.getElem?_eq_none (by simpa using h')] at hi;cases hi
  exact ⟨xs[i],by rw [h1,List.getElem?_eq_getElem hi']⟩)
 exact ⟨a,by simpa using k1,k2⟩
end Go.Sim
