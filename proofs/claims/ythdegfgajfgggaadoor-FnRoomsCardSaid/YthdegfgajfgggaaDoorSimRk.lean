/- slices.Clone of scalars by a contract of its own: a nil row is asked for, and what is answered hangs on no address. Conditions: none. -/
import Derived.Test.YthdegfgajfgggaaDoorSimRi
import Derived.Test.YthdegfgajfgggaaDoorSimPx
namespace Go.Sim
open Go.Pw
set_option linter.unusedSimpArgs false
set_option linter.unusedVariables false
def okF (F:FCfg) (fn:Func):Bool:=!(fn.name=="runtime.NumGoroutine")&&(match fn.body with | some c=>codeGood F c | none=>true)
theorem look_mem {j:Nat}:∀{l:List (Nat×Bool)},look false l j=true→(j,true)∈l
 | [],h=>by cases h
 | (k,v)::l,h=>by
  simp only [look] at h
  cases hb:j.beq k with
  | true=>
   rw [hb] at h
   have:j=k:=Nat.eq_of_beq_eq_true hb
   simp only [cond_true] at h
   subst this h
   exact List.mem_cons_self ..
  | false=>
   rw [hb] at h
   exact List.mem_cons_of_mem _ (look_mem h)
end Go.Sim
namespace Go.Sim
open Go.Pw
set_option linter.unusedSimpArgs false
set_option linter.unusedVariables false
section
variable {P:Program} {cfg:Cfg} {w:World} {f:FuncId} {callF:FuncId→List Arg→Option (Res×List Out)}
theorem cfgOK_ext {ons:List (Nat×Bool)} {fcs:List (Nat×FCfg)} {exts:List (Nat×Option (List Arg→Option Res))} {dps:List (Nat×Nat)} {gb:List (Nat×(Array Value→Prop))} (hmix:P.follows .mixedOrders=true)
 (h:∀p∈ons,∃fn,P.funcs[p.1]?=some fn∧okF (look ⟨[],[],[],[],[],[]⟩ fcs p.1) fn=true)
 (he:∀f g,look none exts f=some g→Plain P f∧∀args res,g args=some res→∀(w:World) (vs:List Value) (W:Wit),vs.length=args.length→BOK gb (baseIn w W 0)→(∀n,vs.length≤n→Rel (baseIn w W n) (entry args) (startAct vs n) w W)→
   Calls P f vs.toArray w fun e w'=>∃v n,e= .returned v∧Returned (mkCfg ons fcs exts dps gb) f (baseIn w W n) args res [] w' v):CfgOK P (mkCfg ons fcs exts dps gb) where
 mix:=hmix
 code:=by
  intro f fn c hon hf hb
  obtain ⟨fn',h1,h2⟩:=h _ (look_mem hon)
  have h1:P.funcs[f]?=some fn':=h1
  rw [hf] at h1;cases h1
  simp only [okF,hb,Bool.and_eq_true] at h2
  exact h2.2
 name:=by
  intro f fn hon hf
  obtain ⟨fn',h1,h2⟩:=h _ (look_mem hon)
  have h1:P.funcs[f]?=some fn':=h1
  rw [hf] at h1;cases h1
  simp only [okF,Bool.and_eq_true] at h2
  simpa using h2.1
 ext:=he
theorem look_cons {α:Type} {d:α} {k:Nat} {v x:α} {l:List (Nat×α)} {j:Nat} (h:look d ((k,v)::l) j=x):(j=k∧v=x)∨look d l j=x:=by
 simp only [look] at h
 cases hb:j.beq k with
 | true=>
  rw [hb] at h
  exact .inl ⟨Nat.eq_of_beq_eq_true hb,by simpa using h⟩
 | false=>
  rw [hb] at h
  exact .inr (by simpa using h)
end
end Go.Sim
