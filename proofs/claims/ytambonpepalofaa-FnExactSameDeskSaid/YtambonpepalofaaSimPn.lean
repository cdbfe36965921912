/- Further laws of the plain words: searches, valid lists, numbers. Conditions: none. -/
import Derived.Test.YtambonpepalofaaSimPy
namespace Go.Pw
open Go.Sim (min2 max2)
set_option linter.unusedVariables false
theorem validL {α:Type} {f:Int→Option (Int ⊕ (Unit ⊕ Bool))} (l:List α) (V:α→Prop) (hl:l.length<4611686018427387904)
 (h1:∀(i:Nat) (hi:i<l.length),(f (i:Int)=some (.inl (w64 ((i:Int)+1)))∧V l[i])∨f (i:Int)=some (.inr (.inr false))) (h2:f (l.length:Int)=some (.inr (.inl ()))):
 (loopO f 0=some (.inl ())∧∀x∈l,V x)∨loopO f 0=some (.inr false):=by
 have key:∀(m i:Nat),i+m=l.length→(loopO f (i:Int)=some (.inl ())∧∀x∈l.drop i,V x)∨loopO f (i:Int)=some (.inr false):=by
  intro m
  induction m with
  | zero=>
   intro i hi
   obtain rfl:i=l.length:=by omega
   exact .inl ⟨loopO_done h2,by rw [List.drop_length];exact fun x hx=>absurd hx List.not_mem_nil⟩
  | succ m ih=>
   intro i hi
   have hi':i<l.length:=by omega
   have hd:l.drop i=l[i]::l.drop (i+1):=List.drop_eq_getElem_cons hi'
   rcases h1 i hi' with ⟨h,hv⟩ | h
   ·rw [w64_succ (by omega)] at h
    rw [loopO_next h]
    rcases ih (i+1) (by omega) with ⟨q1,q2⟩ | q
    ·refine .inl ⟨q1,?_⟩
     rw [hd]
     intro x hx
     rcases List.mem_cons.1 hx with rfl | hx
     ·exact hv
     ·exact q2 x hx
    ·exact .inr q
   ·exact .inr (loopO_done h)
 have:=key l.length 0 (by omega)
 simpa using this
end Go.Pw
