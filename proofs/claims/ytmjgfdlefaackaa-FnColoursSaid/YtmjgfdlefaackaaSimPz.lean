/- Plain words for arrays: an index that is told. Conditions: none. -/
import Derived.Test.YtmjgfdlefaackaaSimPw
namespace Go.Pw
def ix (m:Nat) (n:Int):Option Int:=if 0≤n∧n< (m:Int) then some n else none
end Go.Pw
