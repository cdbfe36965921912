/- Plain words for arrays: an index that is told. Conditions: none. -/
import Derived.Test.YtjejfolfomknaaaSimPw
namespace Go.Pw
end Go.Pw
