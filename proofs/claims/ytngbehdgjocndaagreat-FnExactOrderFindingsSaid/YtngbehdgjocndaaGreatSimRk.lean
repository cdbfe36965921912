/- slices.Clone of scalars by a contract of its own: a nil row is asked for, and what is answered hangs on no address. Conditions: none. -/
import Derived.Test.YtngbehdgjocndaaGreatSimRi
import Derived.Test.YtngbehdgjocndaaGreatSimPx
namespace Go.Sim
variable [Lim]
open Go.Pw
set_option linter.unusedSimpArgs false
set_option linter.unusedVariables false
def okF (F:bC) (fn:Func):Bool:=!(fn.name=="runtime.NumGoroutine")&&(match fn.body with | some c=>o7 F c | none=>true)
omit [Lim] in
theorem SA {j:Nat}:∀{l:List (Nat×Bool)},look false l j=true→(j,true)∈l
 | [],h=>by cases h
 | (k,v)::l,h=>by
  simp only [look] at h
  cases hb:j.beq k with
  | true=>
   rw [hb] at h
   have:j=k:=Nat.eq_of_beq_eq_true hb
   simp only [cond_true] at h
   subst this h
   exact List.mem_cons_self ..
  | false=>
   rw [hb] at h
   exact List.mem_cons_of_mem _ (SA h)
end Go.Sim
namespace Go.Sim
variable [Lim]
open Go.Pw
set_option linter.unusedSimpArgs false
set_option linter.unusedVariables false
section
variable {P:Program} {cfg:Cfg} {w:World} {f:FuncId} {aY:FuncId→List Arg→Option (Res×List Out)}
theorem ac4 {ons:List (Nat×Bool)} {fcs:List (Nat×bC)} {exts:List (Nat×Option (List Arg→Option (Res×List Out)))} {dps:List (Nat×Nat)} {gb:List (Nat×(Array Value→Prop))} {frs ufs:List (Nat×Nat)} (Qd:P.follows .mixedOrders=true)
 (h:∀p∈ons,∃fn,P.funcs[p.1]?=some fn∧okF (look ⟨[],[],[],[],[],[],[]⟩ fcs p.1) fn=true)
 (he:∀f g,look none exts f=some g→Plain P f∧∀args res outs,g args=some (res,outs)→∀(w:World) (vs:List Value) (W:Wit),vs.length=args.length→BOK gb (jK w W 0)→(∀n,vs.length≤n→Rel (jK w W n) (entry args) (tZ vs n) w W)→
   Calls P f vs.toArray w fun e w'=>∃v n,e= .returned v∧GZ (ad4 ons fcs exts dps gb frs ufs) f (jK w W n) args res outs w' v):ZZ P (ad4 ons fcs exts dps gb frs ufs) where
 mix:=Qd
 code:=by
  intro f fn c hon hf hb
  obtain ⟨fn',h1,h2⟩:=h _ (SA hon)
  have h1:P.funcs[f]?=some fn':=h1
  rw [hf] at h1;cases h1
  simp only [okF,hb,Bool.and_eq_true] at h2
  exact h2.2
 name:=by
  intro f fn hon hf
  obtain ⟨fn',h1,h2⟩:=h _ (SA hon)
  have h1:P.funcs[f]?=some fn':=h1
  rw [hf] at h1;cases h1
  simp only [okF,Bool.and_eq_true] at h2
  simpa using h2.1
 ext:=he
end
end Go.Sim
