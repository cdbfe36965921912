/- Further laws of the plain words: sizes, marks. Conditions: none. -/
import Derived.Test.YtngbehdgjocndaaGreatSimPx
namespace Go.Pw
set_option linter.unusedVariables false
theorem Io {σ ρ:Type} {f g:σ→Option (σ ⊕ ρ)} (h:∀s,g s=f s) (s:σ):aT g s=aT f s:=by
 rw [funext h]
theorem abu {α ρ:Type} {f:Int→Option (Int ⊕ (Unit ⊕ ρ))} (l:List α) (p:α→Bool) (R:Nat→ρ) (hl:l.length<4611686018427387904)
 (h1:∀(i:Nat) (hi:i<l.length),f (i:Int)=if p l[i]=true then some (.inl (w64 ((i:Int)+1))) else some (.inr (.inr (R i)))) (h2:f (l.length:Int)=some (.inr (.inl ()))):
 (l.all p=true∧aT f 0=some (.inl ()))∨(l.all p=false∧∃i,i<l.length∧aT f 0=some (.inr (R i))):=by
 have key:∀(m i:Nat),i+m=l.length→((l.drop i).all p=true∧aT f (i:Int)=some (.inl ()))∨((l.drop i).all p=false∧∃j,j<l.length∧aT f (i:Int)=some (.inr (R j))):=by
  intro m
  induction m with
  | zero=>
   intro i hi
   obtain rfl:i=l.length:=by omega
   exact .inl ⟨by rw [List.drop_length];rfl,dG h2⟩
  | succ m ih=>
   intro i hi
   have hi':i<l.length:=by omega
   have hd:l.drop i=l[i]::l.drop (i+1):=List.drop_eq_getElem_cons hi'
   have h:=h1 i hi'
   rw [dX (by omega)] at h
   cases hp:p l[i] with
   | false=>
    rw [hp,if_neg (by decide)] at h
    exact .inr ⟨by rw [hd,List.all_cons,hp];rfl,i,hi',dG h⟩
   | true=>
    rw [hp,if_pos rfl] at h
    rw [hd,List.all_cons,hp,Bool.true_and,iO h]
    exact ih (i+1) (by omega)
 have:=key l.length 0 (by omega)
 simpa using this
theorem X4 {ρ:Type} {f:Int→Option (Int ⊕ ρ)} (n:Nat) (hn:n<4611686018427387904) (h1:∀i:Nat,i<n→f (i:Int)=some (.inl (w64 ((i:Int)+1)))∨∃r,f (i:Int)=some (.inr r)) (h2:∃r,f (n:Int)=some (.inr r)):∃r,aT f 0=some r:=by
 have key:∀(m i:Nat),i+m=n→∃r,aT f (i:Int)=some r:=by
  intro m
  induction m with
  | zero=>
   intro i hi
   obtain rfl:i=n:=by omega
   obtain ⟨r,hr⟩:=h2
   exact ⟨r,dG hr⟩
  | succ m ih=>
   intro i hi
   rcases h1 i (by omega) with h | ⟨r,h⟩
   ·rw [dX (by omega)] at h
    obtain ⟨r,hr⟩:=ih (i+1) (by omega)
    exact ⟨r,by rw [iO h];exact hr⟩
   ·exact ⟨r,dG h⟩
 exact key n 0 (by omega)
theorem abv {s:ByteArray} {i:Nat} (h:i<s.size):∃b:Int,bt s (i:Int)=some b∧0≤b∧b≤255:=by
 unfold bt
 rw [if_pos (by omega)]
 have hl:i<s.data.toList.length:=by simpa using h
 refine ⟨(s.data.toList[i].toNat:Int),?_,by omega,?_⟩
 ·rw [Int.toNat_natCast,List.getElem?_eq_getElem hl]
  rfl
 ·have:=s.data.toList[i].toNat_lt
  omega
theorem acF {s:ByteArray} (h:s.size=0):s=⟨#[]⟩:=by
 cases s with
 | mk d=>
  have:d.size=0:=h
  rw [Array.size_eq_zero_iff.1 this]
theorem X5 {α:Type} {b:Nat} {l m:List α} (h:(l.length+m.length) *b≤140737488355328):apd b l m=some (l++m):=by
 unfold apd
 rw [if_pos h]
end Go.Pw
