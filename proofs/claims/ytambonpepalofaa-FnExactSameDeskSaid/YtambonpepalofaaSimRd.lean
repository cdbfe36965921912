/- Parts of slices, append, calls, regions of many orders: one rule for each shape. Conditions: none. -/
import Derived.Test.YtambonpepalofaaSimRc
namespace Go.Sim
open Go.Pw
set_option linter.unusedSimpArgs false
set_option linter.unusedVariables false
noncomputable section
variable {P:Program} {cfg:Cfg} {C:CallF} {f nt:Nat} {ops:Array Oper} {l:List Oper} {st st1 st2 X:St} {A A' A1 A2:List (Nat×SV)} {B B' B1 B2:List (Nat×Option Obj)}
variable {d:Nat} {op:Op} {dst:Option Tmp} {ty:TypeId} {pos:String} {aft:Array Edge} {gd:Option (Nat×Bool)}
theorem flat0 {α:Type} {ks:List (Option Nat)} {t:Nat} {L:List α} {en:α→AV} (hk:ks.any (·.isSome)=false) (he:∀x,(en x).flat=true):flatTag ks t (L.map en)=0:=by
 unfold flatTag
 rw [hk]
 have:(L.map en).all AV.flat=true:=by
  rw [List.all_eq_true]
  intro y hy
  obtain ⟨x,_,rfl⟩:=List.mem_map.1 hy
  exact he x
 rw [this]
 rfl
theorem flat1 {ks:List (Option Nat)} {t:Nat} {es:List AV} (hk:ks.any (·.isSome)=true):flatTag ks t es=t:=by
 unfold flatTag
 rw [hk]
 rfl
section
variable (hd:Nat.blt d nt=true)
include hd
end
end
end Go.Sim
