/- Further laws of the plain words: sizes, marks. Conditions: none. -/
import Derived.Test.YtnjgcdpleghciaaGreatSimPx
namespace Go.Pw
set_option linter.unusedVariables false
theorem afs {α:Type} {f:Int×Int×List α→Option ((Int×Int×List α) ⊕ (Int×List α))} {c:Nat} (K:Int)
 (h1:∀(k:Int) (i:Nat) (out:List α),i<out.length→0≤k→k≤K→∃k' out',out'.length=out.length∧k≤k'∧k'≤k+c∧f (k,(i:Int),out)=some (.inl (k',w64 ((i:Int)+1),out')))
 (h2:∀k out,f (k,(out.length:Int),out)=some (.inr (k,out))) (l:List α) {k0:Int} (hk:0≤k0) (hK:k0+((c*l.length:Nat):Int)≤K) (hl:l.length<4611686018427387904):
 ∃k' out',aG f (k0,0,l)=some (k',out')∧k0≤k'∧out'.length=l.length:=by
 have key:∀(m i:Nat) (k:Int) (out:List α),i+m=l.length→out.length=l.length→k0≤k→k≤k0+((c*i:Nat):Int)→∃k' out',aG f (k,(i:Int),out)=some (k',out')∧k0≤k'∧out'.length=l.length:=by
  intro m
  induction m with
  | zero=>
   intro i k out hi ho hk1 hk2
   have e:(i:Int)=(out.length:Int):=by omega
   exact ⟨k,out,aN (by rw [e];exact h2 k out),hk1,ho⟩
  | succ m ih=>
   intro i k out hi ho hk1 hk2
   have m1:c*i≤c*l.length:=Nat.mul_le_mul_left c (by omega)
   obtain ⟨k',out',q1,q2,q3,q4⟩:=h1 k i out (by omega) (by omega) (by omega)
   rw [bU (by omega)] at q4
   have m2:c* (i+1)=c*i+c:=Nat.mul_succ c i
   obtain ⟨k2,o2,r1,r2,r3⟩:=ih (i+1) k' out' (by omega) (by omega) (by omega) (by omega)
   exact ⟨k2,o2,by rw [bT q4];exact r1,r2,r3⟩
 exact key l.length 0 k0 l (by omega) rfl (by omega) (by simp)
theorem DW {σ ρ:Type} {f g:σ→Option (σ ⊕ ρ)} (h:∀s,g s=f s) (s:σ):aG g s=aG f s:=by
 rw [funext h]
theorem UL {α ρ:Type} {f:Int→Option (Int ⊕ (Unit ⊕ ρ))} (l:List α) (p:α→Bool) (R:Nat→ρ) (hl:l.length<4611686018427387904)
 (h1:∀(i:Nat) (hi:i<l.length),f (i:Int)=if p l[i]=true then some (.inl (w64 ((i:Int)+1))) else some (.inr (.inr (R i)))) (h2:f (l.length:Int)=some (.inr (.inl ()))):
 (l.all p=true∧aG f 0=some (.inl ()))∨(l.all p=false∧∃i,i<l.length∧aG f 0=some (.inr (R i))):=by
 have key:∀(m i:Nat),i+m=l.length→((l.drop i).all p=true∧aG f (i:Int)=some (.inl ()))∨((l.drop i).all p=false∧∃j,j<l.length∧aG f (i:Int)=some (.inr (R j))):=by
  intro m
  induction m with
  | zero=>
   intro i hi
   obtain rfl:i=l.length:=by omega
   exact .inl ⟨by rw [List.drop_length];rfl,aN h2⟩
  | succ m ih=>
   intro i hi
   have hi':i<l.length:=by omega
   have hd:l.drop i=l[i]::l.drop (i+1):=List.drop_eq_getElem_cons hi'
   have h:=h1 i hi'
   rw [bU (by omega)] at h
   cases hp:p l[i] with
   | false=>
    rw [hp,if_neg (by decide)] at h
    exact .inr ⟨by rw [hd,List.all_cons,hp];rfl,i,hi',aN h⟩
   | true=>
    rw [hp,if_pos rfl] at h
    rw [hd,List.all_cons,hp,Bool.true_and,bT h]
    exact ih (i+1) (by omega)
 have:=key l.length 0 (by omega)
 simpa using this
theorem QZ {ρ:Type} {f:Int→Option (Int ⊕ ρ)} (n:Nat) (hn:n<4611686018427387904) (h1:∀i:Nat,i<n→f (i:Int)=some (.inl (w64 ((i:Int)+1)))∨∃r,f (i:Int)=some (.inr r)) (h2:∃r,f (n:Int)=some (.inr r)):∃r,aG f 0=some r:=by
 have key:∀(m i:Nat),i+m=n→∃r,aG f (i:Int)=some r:=by
  intro m
  induction m with
  | zero=>
   intro i hi
   obtain rfl:i=n:=by omega
   obtain ⟨r,hr⟩:=h2
   exact ⟨r,aN hr⟩
  | succ m ih=>
   intro i hi
   rcases h1 i (by omega) with h | ⟨r,h⟩
   ·rw [bU (by omega)] at h
    obtain ⟨r,hr⟩:=ih (i+1) (by omega)
    exact ⟨r,by rw [bT h];exact hr⟩
   ·exact ⟨r,aN h⟩
 exact key n 0 (by omega)
theorem UM {s:ByteArray} {i:Nat} (h:i<s.size):∃b:Int,bt s (i:Int)=some b∧0≤b∧b≤255:=by
 unfold bt
 rw [if_pos (by omega)]
 have hl:i<s.data.toList.length:=by simpa using h
 refine ⟨(s.data.toList[i].toNat:Int),?_,by omega,?_⟩
 ·rw [Int.toNat_natCast,List.getElem?_eq_getElem hl]
  rfl
 ·have:=s.data.toList[i].toNat_lt
  omega
theorem VN {s:ByteArray} (h:s.size=0):s=⟨#[]⟩:=by
 cases s with
 | mk d=>
  have:d.size=0:=h
  rw [Array.size_eq_zero_iff.1 this]
theorem yx {α:Type} {b:Nat} {l m:List α} (h:(l.length+m.length) *b≤140737488355328):apd b l m=some (l++m):=by
 unfold apd
 rw [if_pos h]
end Go.Pw
