/- Further laws of the plain words: searches, valid lists, numbers. Conditions: none. -/
import Derived.Test.YtmjgfdlefaackaaSimPy
namespace Go.Pw
open Go.Sim (min2 max2)
set_option linter.unusedVariables false
theorem Ea {α ρ:Type} {f:Int→Option (Int ⊕ (Unit ⊕ ρ))} (l:List α) (p:α→Bool) (R:Nat→ρ) (hl:l.length<4611686018427387904)
 (h1:∀(i:Nat) (hi:i<l.length),f (i:Int)=if p l[i]=true then some (.inr (.inr (R i))) else some (.inl (w64 ((i:Int)+1)))) (h2:f (l.length:Int)=some (.inr (.inl ()))):
 ((∀x∈l,p x=false)∧aH f 0=some (.inl ()))∨(∃i,∃h:i<l.length,p l[i]=true∧(∀j (hj:j<i),p (l[j]'(by omega))=false)∧aH f 0=some (.inr (R i))):=by
 have key:∀(m i:Nat),i+m=l.length→((∀x∈l.drop i,p x=false)∧aH f (i:Int)=some (.inl ()))∨(∃j,∃h:j<l.length,p l[j]=true∧(∀k (hk:k<j),i≤k→p (l[k]'(by omega))=false)∧aH f (i:Int)=some (.inr (R j))):=by
  intro m
  induction m with
  | zero=>
   intro i hi
   obtain rfl:i=l.length:=by omega
   exact .inl ⟨by rw [List.drop_length];exact fun x hx=>absurd hx List.not_mem_nil,aQ h2⟩
  | succ m ih=>
   intro i hi
   have hi':i<l.length:=by omega
   have hd:l.drop i=l[i]::l.drop (i+1):=List.drop_eq_getElem_cons hi'
   have h:=h1 i hi'
   rw [aT (by omega)] at h
   cases hp:p l[i] with
   | true=>
    rw [hp,if_pos rfl] at h
    exact .inr ⟨i,hi',hp,fun k hk hik=>absurd hik (by omega),aQ h⟩
   | false=>
    rw [hp,if_neg (by decide)] at h
    rw [bQ h]
    rcases ih (i+1) (by omega) with ⟨q1,q2⟩ | ⟨j,hj,q1,q2,q3⟩
    ·refine .inl ⟨?_,q2⟩
     rw [hd]
     intro x hx
     rcases List.mem_cons.1 hx with rfl | hx
     ·exact hp
     ·exact q1 x hx
    ·refine .inr ⟨j,hj,q1,fun k hk hik=>?_,q3⟩
     by_cases e:k=i
     ·subst e;exact hp
     ·exact q2 k hk (by omega)
 have:=key l.length 0 (by omega)
 simpa using this
theorem jq (a b:Int):(b>a∧max2 a b=b)∨(b≤a∧max2 a b=a):=by
 unfold max2
 split
 ·exact .inl ⟨by omega,rfl⟩
 ·exact .inr ⟨by omega,rfl⟩
theorem qo (a b:Int):(b<a∧min2 a b=b)∨(a≤b∧min2 a b=a):=by
 unfold min2
 split
 ·exact .inl ⟨by omega,rfl⟩
 ·exact .inr ⟨by omega,rfl⟩
def upto:Nat→List Int
 | 0=>[]
 | n+1=>upto n++[(n:Int)]
theorem Eb:∀n,(upto n).length=n
 | 0=>rfl
 | n+1=>by simp [upto,Eb n]
theorem IM {n:Nat} {x:Int}:x∈upto n↔0≤x∧x<n:=by
 induction n with
 | zero=>simp [upto]<;>omega
 | succ n ih=>simp [upto,ih];omega
theorem vP:∀(M L:List Int),M.Nodup→(∀x∈M,x∈L)→M.length≤L.length:=by
 intro M
 induction M with
 | nil=>intro L _ _;simp
 | cons x M ih=>
  intro L hn hs
  rw [List.nodup_cons] at hn
  have hx:=hs x List.mem_cons_self
  have:=ih (L.erase x) hn.2 (fun y hy=>(List.mem_erase_of_ne (show y≠x from fun e=>hn.1 (by rw [←e];exact hy))).2 (hs y (List.mem_cons_of_mem _ hy)))
  rw [List.length_erase_of_mem hx] at this
  have:=List.length_pos_of_mem hx
  simp only [List.length_cons]
  omega
end Go.Pw
