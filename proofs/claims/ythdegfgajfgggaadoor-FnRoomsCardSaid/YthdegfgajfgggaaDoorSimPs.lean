/- A plain word for strconv.FormatInt at base 10. Conditions: none. -/
import Derived.Test.YthdegfgajfgggaaDoorSimPw
import Derived.Lib.ItoaNum
import Derived.Lib.IndexMore
namespace Go.Pw
def dcm (n:Int):ByteArray:=⟨(Go.Lib.itoa n).toArray⟩
def fmtI (n:Int):Option ByteArray:=if -9223372036854775808≤n∧n≤9223372036854775807 then some (dcm n) else none
def cutA (s sep:ByteArray):ByteArray×ByteArray×Bool:=(⟨(Go.Lib.cut s.data.toList sep.data.toList).1.toArray⟩,⟨(Go.Lib.cut s.data.toList sep.data.toList).2.1.toArray⟩,(Go.Lib.cut s.data.toList sep.data.toList).2.2)
def cutS (s sep:ByteArray):Option (ByteArray×ByteArray×Bool):=if s.size<4294967281 then some (cutA s sep) else none
end Go.Pw
