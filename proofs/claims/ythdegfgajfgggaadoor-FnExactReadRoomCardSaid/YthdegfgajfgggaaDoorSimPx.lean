/- Laws of the plain words. Conditions: none. -/
import Derived.Test.YthdegfgajfgggaaDoorSimPw
namespace Go.Pw
set_option linter.unusedVariables false
theorem w64_id {n:Int} (h1:-9223372036854775808≤n) (h2:n≤9223372036854775807):w64 n=n:=by
 simp only [w64,IntKind.wrap,IntKind.signed,IntKind.bits]
 simp
 omega
theorem w64_succ {i:Nat} (h:i<9223372036854775807):w64 ((i:Int)+1)=((i+1:Nat):Int):=by
 rw [w64_id (by omega) (by omega)];omega
end Go.Pw
