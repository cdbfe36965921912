/- Laws of the plain words. Conditions: none. -/
import Derived.Test.YteglmkbkjaeijaaSimPw
namespace Go.Pw
set_option linter.unusedVariables false

theorem w64_id {n : Int} (h1 : -9223372036854775808 ≤ n) (h2 : n ≤ 9223372036854775807) : w64 n = n := by
  simp only [w64, IntKind.wrap, IntKind.signed, IntKind.bits]
  simp
  omega

theorem cat_some {a b : ByteArray} (h : a.size + b.size ≤ 9223372036854775807) : cat a b = some (a ++ b) := by
  unfold cat
  rw [if_neg (by have : IntKind.i64.max = 9223372036854775807 := by decide
                 rw [this]; omega)]

end Go.Pw
