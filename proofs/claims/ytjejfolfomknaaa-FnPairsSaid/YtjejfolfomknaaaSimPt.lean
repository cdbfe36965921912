/- Plain words for functions of the library that write into a row of numbers in place. Conditions: none. -/
import Derived.Test.YtjejfolfomknaaaSimPx
namespace Go.Pw
def Ea (l:List Int) (i j:Nat):List Int:=l.take i++l.drop j
def QZ (l:List Int) (i j:Int):Option (List Int):=if l.length<4611686018427387904∧0≤i∧i<j∧j≤(l.length:Int) then some (Ea l i.toNat j.toNat) else none
theorem TP {l:List Int} {i j:Nat} (h1:i≤j) (h2:j≤l.length):(Ea l i j).length=l.length - (j - i):=by
 unfold Ea
 rw [List.length_append,List.length_take,List.length_drop];omega
end Go.Pw
