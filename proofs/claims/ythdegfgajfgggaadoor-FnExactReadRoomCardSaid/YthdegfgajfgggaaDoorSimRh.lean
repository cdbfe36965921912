/- The arguments of a row: a reading of them gives typed values and cells that stay. Conditions: none. -/
import Derived.Test.YthdegfgajfgggaaDoorSimRg
import Derived.ChangeArms
import Derived.ChangeStays
import Derived.ChangeSame
import Derived.OpenShut
namespace Go.Sim
open Go.Pw
set_option linter.unusedSimpArgs false
set_option linter.unusedVariables false
abbrev Stay (w:World):List AV→List Value→Prop:=CRi w (fun b=>b<w.heap.size)
def Opens (P:Program) (t:TypeId) {α:Type} (en:α→List AV) (ok:α→Prop):Prop:=
 ∀(H:Type) (enc:TypeId×Value→H) (w:World) (fuel:Nat) (cs:List Value) (x:DataW H×List MemPlace),DataW.trod enc P w 0 (fun _=>true) true fuel t cs=some x→∃a,Stay w (en a) cs∧ok a
variable {P:Program} {t e:TypeId} {α β γ:Type} {en:α→List AV} {ok:α→Prop}
theorem opens_string (ht:P.underlying t=some .string):Opens P t (fun s:ByteArray=>[.sc (.string s)]) (fun s=>s.size≤maxLen):=by
 intro H enc w fuel cs x h
 obtain ⟨n,rfl,_,hs⟩:=DataW.trod_string ht h
 exact ⟨n,.sc rfl .nil,hs⟩
theorem CRi.app {w:World} {Fp:Nat→Prop} {as bs:List AV} {us vs:List Value} (h:CRi w Fp as us) (h':CRi w Fp bs vs):CRi w Fp (as++bs) (us++vs):=by
 induction h with
 | nil=>exact h'
 | sc hp _ ih=>exact .sc hp ih
 | nilrow _ ih=>exact .nilrow ih
 | row h1 h2 h3 h4 h5 h6 _ _ ih=>exact .row h1 h2 h3 h4 h5 h6 ih
 | cp h1 h2 h3 h4 _ _ ih=>exact .cp h1 h2 h3 h4 ih
 | clo h1 _ _ ih=>exact .clo h1 ih
end Go.Sim
