/- Plain words for functions of the library that write into a row of numbers in place. Conditions: none. -/
import Derived.Test.YtmjgfdlefaackaaSimPx
namespace Go.Pw
def sortL (l:List Int):List Int:=l.mergeSort fun x y=>decide (x≤y)
def IA (l:List Int):Option (List Int):=if l.length<4611686018427387904 then some (sortL l) else none
theorem Md:sortL []=[]:=by simp [sortL]
theorem yR (l:List Int):(sortL l).Perm l:=List.mergeSort_perm l _
theorem Fq (l:List Int):(sortL l).length=l.length:=(yR l).length_eq
theorem IC (l:List Int):(sortL l).Pairwise (·≤·):=by
 have:=List.pairwise_mergeSort (le:=fun x y:Int=>decide (x≤y)) (fun a b c h1 h2=>by simp at*;omega) (fun a b=>by simp;omega) l
 exact this.imp fun h=>by simpa using h
def cmpL:List Int→List Int
 | []=>[]
 | a::t=>if t.head? =some a then cmpL t else a::cmpL t
def OA (l:List Int):Option (List Int):=if l.length<4611686018427387904 then some (cmpL l) else none
theorem OB:cmpL []=[]:=rfl
theorem IE:∀l,(cmpL l).length≤l.length
 | []=>Nat.le_refl _
 | a::t=>by
  unfold cmpL
  have:=IE t
  split
  ·rw [List.length_cons];omega
  ·rw [List.length_cons,List.length_cons];omega
end Go.Pw
