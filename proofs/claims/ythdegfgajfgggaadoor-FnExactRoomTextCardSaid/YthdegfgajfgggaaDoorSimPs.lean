/- A plain word for strconv.FormatInt at base 10. Conditions: none. -/
import Derived.Test.YthdegfgajfgggaaDoorSimPw
import Derived.Lib.ItoaNum
import Derived.Lib.IndexMore
namespace Go.Pw
def dcm (n:Int):ByteArray:=⟨(Go.Lib.itoa n).toArray⟩
def fmtI (n:Int):Option ByteArray:=if -9223372036854775808≤n∧n≤9223372036854775807 then some (dcm n) else none
end Go.Pw
