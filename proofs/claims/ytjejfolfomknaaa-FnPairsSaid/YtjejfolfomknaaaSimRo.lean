/- Rows whose elements own rows: one rule for each operation. Conditions: none. -/
import Derived.Test.YtjejfolfomknaaaSimRe
namespace Go.Sim
open Go.Pw
set_option linter.unusedSimpArgs false
set_option linter.unusedVariables false
noncomputable section
variable {P:Program} {cfg:Cfg} {C:rY} {f nt:Nat} {ops:Array Oper} {l:List Oper} {st st1 st2 X:St} {A A' A1 A2:List (Nat×SV)} {B B' B1 B2:List (Nat×Option Obj)}
variable {d:Nat} {op:Op} {dst:Option Tmp} {ty:TypeId} {pos:String} {aft:Array Edge} {gd:Option (Nat×Bool)}
section
variable (hd:Nat.blt d nt=true)
include hd
end
end
end Go.Sim
