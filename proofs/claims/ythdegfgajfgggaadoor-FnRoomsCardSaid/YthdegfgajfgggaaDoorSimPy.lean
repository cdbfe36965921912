/- Further laws of the plain words: sizes, marks. Conditions: none. -/
import Derived.Test.YthdegfgajfgggaaDoorSimPx
namespace Go.Pw
set_option linter.unusedVariables false
theorem loopO_sim {σ τ ρ ρ':Type} {f:σ→Option (σ ⊕ ρ)} {g:τ→Option (τ ⊕ ρ')} (φ:σ→τ) (ψ:ρ→ρ') (h:∀s,g (φ s)=(f s).map (Sum.map φ ψ)) (s:σ):loopO g (φ s)=(loopO f s).map ψ:=by
 have key:∀n s,iterO (loopF g) n (φ s)=(iterO (loopF f) n s).map ψ:=by
  intro n
  induction n with
  | zero=>intro s;rfl
  | succ n ih=>
   intro s
   simp only [iterO,loopF,h]
   cases hf:f s with
   | none=>rfl
   | some o=>
    cases o with
    | inl s'=>simpa using ih s'
    | inr r=>rfl
 cases hx:loopO f s with
 | some r=>
  obtain ⟨n,hn⟩:=loopO_iter hx
  exact fixO_of (loopF_fs g) (n:=n) (by rw [key,hn];rfl)
 | none=>
  cases hy:loopO g (φ s) with
  | none=>rfl
  | some r=>
   obtain ⟨n,hn⟩:=loopO_iter hy
   rw [key] at hn
   obtain ⟨r',h1,_⟩:=Option.map_eq_some_iff.1 hn
   have:loopO f s=some r':=fixO_of (loopF_fs f) h1
   rw [hx] at this
   cases this
theorem apdn {α:Type} {b:Nat} {l m:List α} (h:(l.length+m.length) *b≤140737488355328):apd b l m=some (l++m):=by
 unfold apd
 rw [if_pos h]
end Go.Pw
