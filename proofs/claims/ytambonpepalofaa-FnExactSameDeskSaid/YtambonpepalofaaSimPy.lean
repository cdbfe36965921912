/- Further laws of the plain words: sizes, marks. Conditions: none. -/
import Derived.Test.YtambonpepalofaaSimPx
namespace Go.Pw
set_option linter.unusedVariables false
theorem scanEnds {ρ:Type} {f:Int→Option (Int ⊕ ρ)} (n:Nat) (hn:n<4611686018427387904) (h1:∀i:Nat,i<n→f (i:Int)=some (.inl (w64 ((i:Int)+1)))∨∃r,f (i:Int)=some (.inr r)) (h2:∃r,f (n:Int)=some (.inr r)):∃r,loopO f 0=some r:=by
 have key:∀(m i:Nat),i+m=n→∃r,loopO f (i:Int)=some r:=by
  intro m
  induction m with
  | zero=>
   intro i hi
   obtain rfl:i=n:=by omega
   obtain ⟨r,hr⟩:=h2
   exact ⟨r,loopO_done hr⟩
  | succ m ih=>
   intro i hi
   rcases h1 i (by omega) with h | ⟨r,h⟩
   ·rw [w64_succ (by omega)] at h
    obtain ⟨r,hr⟩:=ih (i+1) (by omega)
    exact ⟨r,by rw [loopO_next h];exact hr⟩
   ·exact ⟨r,loopO_done h⟩
 exact key n 0 (by omega)
end Go.Pw
