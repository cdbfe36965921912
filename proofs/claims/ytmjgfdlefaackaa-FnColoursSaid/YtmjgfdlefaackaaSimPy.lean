/- Further laws of the plain words: sizes, marks. Conditions: none. -/
import Derived.Test.YtmjgfdlefaackaaSimPx
namespace Go.Pw
set_option linter.unusedVariables false
theorem KN {α ρ:Type} {f:Int→Option (Int ⊕ (Unit ⊕ ρ))} (l:List α) (p:α→Bool) (R:Nat→ρ) (hl:l.length<4611686018427387904)
 (h1:∀(i:Nat) (hi:i<l.length),f (i:Int)=if p l[i]=true then some (.inl (w64 ((i:Int)+1))) else some (.inr (.inr (R i)))) (h2:f (l.length:Int)=some (.inr (.inl ()))):
 (l.all p=true∧aH f 0=some (.inl ()))∨(l.all p=false∧∃i,i<l.length∧aH f 0=some (.inr (R i))):=by
 have key:∀(m i:Nat),i+m=l.length→((l.drop i).all p=true∧aH f (i:Int)=some (.inl ()))∨((l.drop i).all p=false∧∃j,j<l.length∧aH f (i:Int)=some (.inr (R j))):=by
  intro m
  induction m with
  | zero=>
   intro i hi
   obtain rfl:i=l.length:=by omega
   exact .inl ⟨by rw [List.drop_length];rfl,aQ h2⟩
  | succ m ih=>
   intro i hi
   have hi':i<l.length:=by omega
   have hd:l.drop i=l[i]::l.drop (i+1):=List.drop_eq_getElem_cons hi'
   have h:=h1 i hi'
   rw [aT (by omega)] at h
   cases hp:p l[i] with
   | false=>
    rw [hp,if_neg (by decide)] at h
    exact .inr ⟨by rw [hd,List.all_cons,hp];rfl,i,hi',aQ h⟩
   | true=>
    rw [hp,if_pos rfl] at h
    rw [hd,List.all_cons,hp,Bool.true_and,bQ h]
    exact ih (i+1) (by omega)
 have:=key l.length 0 (by omega)
 simpa using this
theorem IL {α:Type} {b:Nat} {l m:List α} (h:(l.length+m.length) *b≤140737488355328):apd b l m=some (l++m):=by
 unfold apd
 rw [if_pos h]
end Go.Pw
