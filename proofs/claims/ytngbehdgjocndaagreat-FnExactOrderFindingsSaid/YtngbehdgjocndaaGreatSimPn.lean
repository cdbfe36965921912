/- Further laws of the plain words: searches, valid lists, numbers. Conditions: none. -/
import Derived.Test.YtngbehdgjocndaaGreatSimPy
namespace Go.Pw
open Go.Sim (min2 max2)
set_option linter.unusedVariables false
theorem rZ {α ρ:Type} {f:Int→Option (Int ⊕ (Unit ⊕ ρ))} (l:List α) (p:α→Bool) (R:Nat→ρ) (hl:l.length<4611686018427387904)
 (h1:∀(i:Nat) (hi:i<l.length),f (i:Int)=if p l[i]=true then some (.inr (.inr (R i))) else some (.inl (w64 ((i:Int)+1)))) (h2:f (l.length:Int)=some (.inr (.inl ()))):
 ((∀x∈l,p x=false)∧aT f 0=some (.inl ()))∨(∃i,∃h:i<l.length,p l[i]=true∧(∀j (hj:j<i),p (l[j]'(by omega))=false)∧aT f 0=some (.inr (R i))):=by
 have key:∀(m i:Nat),i+m=l.length→((∀x∈l.drop i,p x=false)∧aT f (i:Int)=some (.inl ()))∨(∃j,∃h:j<l.length,p l[j]=true∧(∀k (hk:k<j),i≤k→p (l[k]'(by omega))=false)∧aT f (i:Int)=some (.inr (R j))):=by
  intro m
  induction m with
  | zero=>
   intro i hi
   obtain rfl:i=l.length:=by omega
   exact .inl ⟨by rw [List.drop_length];exact fun x hx=>absurd hx List.not_mem_nil,dG h2⟩
  | succ m ih=>
   intro i hi
   have hi':i<l.length:=by omega
   have hd:l.drop i=l[i]::l.drop (i+1):=List.drop_eq_getElem_cons hi'
   have h:=h1 i hi'
   rw [dX (by omega)] at h
   cases hp:p l[i] with
   | true=>
    rw [hp,if_pos rfl] at h
    exact .inr ⟨i,hi',hp,fun k hk hik=>absurd hik (by omega),dG h⟩
   | false=>
    rw [hp,if_neg (by decide)] at h
    rw [iO h]
    rcases ih (i+1) (by omega) with ⟨q1,q2⟩ | ⟨j,hj,q1,q2,q3⟩
    ·refine .inl ⟨?_,q2⟩
     rw [hd]
     intro x hx
     rcases List.mem_cons.1 hx with rfl | hx
     ·exact hp
     ·exact q1 x hx
    ·refine .inr ⟨j,hj,q1,fun k hk hik=>?_,q3⟩
     by_cases e:k=i
     ·subst e;exact hp
     ·exact q2 k hk (by omega)
 have:=key l.length 0 (by omega)
 simpa using this
theorem akW {α:Type} {f:Int→Option (Int ⊕ (Unit ⊕ Bool))} (l:List α) (V:α→Prop) (hl:l.length<4611686018427387904)
 (h1:∀(i:Nat) (hi:i<l.length),(f (i:Int)=some (.inl (w64 ((i:Int)+1)))∧V l[i])∨f (i:Int)=some (.inr (.inr false))) (h2:f (l.length:Int)=some (.inr (.inl ()))):
 (aT f 0=some (.inl ())∧∀x∈l,V x)∨aT f 0=some (.inr false):=by
 have key:∀(m i:Nat),i+m=l.length→(aT f (i:Int)=some (.inl ())∧∀x∈l.drop i,V x)∨aT f (i:Int)=some (.inr false):=by
  intro m
  induction m with
  | zero=>
   intro i hi
   obtain rfl:i=l.length:=by omega
   exact .inl ⟨dG h2,by rw [List.drop_length];exact fun x hx=>absurd hx List.not_mem_nil⟩
  | succ m ih=>
   intro i hi
   have hi':i<l.length:=by omega
   have hd:l.drop i=l[i]::l.drop (i+1):=List.drop_eq_getElem_cons hi'
   rcases h1 i hi' with ⟨h,hv⟩ | h
   ·rw [dX (by omega)] at h
    rw [iO h]
    rcases ih (i+1) (by omega) with ⟨q1,q2⟩ | q
    ·refine .inl ⟨q1,?_⟩
     rw [hd]
     intro x hx
     rcases List.mem_cons.1 hx with rfl | hx
     ·exact hv
     ·exact q2 x hx
    ·exact .inr q
   ·exact .inr (dG h)
 have:=key l.length 0 (by omega)
 simpa using this
theorem RQ (a b:Int):(b>a∧max2 a b=b)∨(b≤a∧max2 a b=a):=by
 unfold max2
 split
 ·exact .inl ⟨by omega,rfl⟩
 ·exact .inr ⟨by omega,rfl⟩
theorem RS (a b:Int):(b<a∧min2 a b=b)∨(a≤b∧min2 a b=a):=by
 unfold min2
 split
 ·exact .inl ⟨by omega,rfl⟩
 ·exact .inr ⟨by omega,rfl⟩
theorem LV {i:Nat} (h:i<9223372036854775807) (h0:0<i):w64 ((i:Int) - 1)=((i - 1:Nat):Int):=by
 rw [dP (by omega) (by omega)];omega
end Go.Pw
