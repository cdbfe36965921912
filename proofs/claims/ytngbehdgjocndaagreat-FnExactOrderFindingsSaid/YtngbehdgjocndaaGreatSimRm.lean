/- Rules for arrays whose index is told: a load and a store of one element. Conditions: none. -/
import Derived.Test.YtngbehdgjocndaaGreatSimRf
import Derived.Test.YtngbehdgjocndaaGreatSimPz
namespace Go.Sim
open Go.Pw
set_option linter.unusedVariables false
section
variable {P:Program} {cfg:Cfg} {C:yc} {f nt:Nat} {ops:Array Oper} {l:List Oper} {st st1 st2 X:St} {A A':List (Nat×SV)} {B B':List (Nat×Option Obj)}
variable {d:Nat} {op:Op} {dst:Option Tmp} {ty:TypeId} {pos:String} {aft:Array Edge} {gd:Option (Nat×Bool)}
end
end Go.Sim
