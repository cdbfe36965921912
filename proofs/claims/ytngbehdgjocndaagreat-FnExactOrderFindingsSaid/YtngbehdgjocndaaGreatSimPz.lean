/- Plain words for arrays: an index that is told. Conditions: none. -/
import Derived.Test.YtngbehdgjocndaaGreatSimPw
namespace Go.Pw
end Go.Pw
