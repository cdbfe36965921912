/- slices.Clone of scalars by a contract of its own: a nil row is asked for, and what is answered hangs on no address. Conditions: none. -/
import Derived.Test.YtonnimmkimccfaaGreatSimRj
namespace Go.Sim
open Go.Pw
set_option linter.unusedSimpArgs false
set_option linter.unusedVariables false
section
variable {P:Program} {cfg:Cfg} {w:World} {f:FuncId} {callF:FuncId→List Arg→Option (Res×List Out)}
theorem cfgOK_ext {ons:List (Nat×Bool)} {fcs:List (Nat×FCfg)} {exts:List (Nat×Option (List Arg→Option Res))} (hmix:P.follows .mixedOrders=true)
 (h:∀p∈ons,∃fn,P.funcs[p.1]?=some fn∧okF (look ⟨[],[],[],[],[],[]⟩ fcs p.1) fn=true)
 (he:∀f g,look none exts f=some g→Plain P f∧∀args res,g args=some res→∀(w:World) (vs:List Value) (W:Wit),vs.length=args.length→(∀n,vs.length≤n→Rel (baseIn w W n) (entry args) (startAct vs n) w W)→
   Calls P f vs.toArray w fun e w'=>∃v n,e= .returned v∧Returned (mkCfg ons fcs exts) f (baseIn w W n) args res [] w' v):CfgOK P (mkCfg ons fcs exts) where
 mix:=hmix
 code:=by
  intro f fn c hon hf hb
  obtain ⟨fn',h1,h2⟩:=h _ (look_mem hon)
  have h1:P.funcs[f]?=some fn':=h1
  rw [hf] at h1;cases h1
  simp only [okF,hb,Bool.and_eq_true] at h2
  exact h2.2
 name:=by
  intro f fn hon hf
  obtain ⟨fn',h1,h2⟩:=h _ (look_mem hon)
  have h1:P.funcs[f]?=some fn':=h1
  rw [hf] at h1;cases h1
  simp only [okF,Bool.and_eq_true] at h2
  simpa using h2.1
 ext:=he
end
end Go.Sim
