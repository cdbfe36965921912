/- A printed configuration is a good one. Conditions: none. -/
import Derived.Test.YtambonpepalofaaSimRi
import Derived.Test.YtambonpepalofaaSimPx
namespace Go.Sim
open Go.Pw
set_option linter.unusedSimpArgs false
set_option linter.unusedVariables false
def okF (F:FCfg) (fn:Func):Bool:=!(fn.name=="runtime.NumGoroutine")&&(match fn.body with | some c=>codeGood F c | none=>true)
theorem look_mem {j:Nat}:∀{l:List (Nat×Bool)},look false l j=true→(j,true)∈l
 | [],h=>by cases h
 | (k,v)::l,h=>by
  simp only [look] at h
  cases hb:j.beq k with
  | true=>
   rw [hb] at h
   have:j=k:=Nat.eq_of_beq_eq_true hb
   simp only [cond_true] at h
   subst this h
   exact List.mem_cons_self ..
  | false=>
   rw [hb] at h
   exact List.mem_cons_of_mem _ (look_mem h)
end Go.Sim
