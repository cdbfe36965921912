/- Further laws of the plain words: searches, valid lists, numbers. Conditions: none. -/
import Derived.Test.YthdegfgajfgggaaDoorSimPy
namespace Go.Pw
open Go.Sim (min2 max2)
set_option linter.unusedVariables false
end Go.Pw
