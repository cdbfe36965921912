/- Further laws of the plain words: sizes, marks. Conditions: none. -/
import Derived.Test.YthdegfgajfgggaaDoorSimPx
namespace Go.Pw
set_option linter.unusedVariables false
theorem apdn {α:Type} {b:Nat} {l m:List α} (h:(l.length+m.length) *b≤140737488355328):apd b l m=some (l++m):=by
 unfold apd
 rw [if_pos h]
end Go.Pw
