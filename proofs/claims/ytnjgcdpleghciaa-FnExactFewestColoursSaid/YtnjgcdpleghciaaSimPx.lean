/- Laws of the plain words. Conditions: none. -/
import Derived.Test.YtnjgcdpleghciaaSimPw
namespace Go.Pw
set_option linter.unusedVariables false
theorem alv {n:Int} (h1:-9223372036854775808≤n) (h2:n≤9223372036854775807):w64 n=n:=by
 simp only [w64,IntKind.wrap,IntKind.signed,IntKind.bits]
 simp
 omega
theorem amr {α β:Type} {f:α→Option (α ⊕ β)} (S:Nat→α) (n:Nat) {r:β} (h:∀i,i<n→f (S i)=some (.inl (S (i+1)))) (hd:f (S n)=some (.inr r)):aiM f (S 0)=some r:=by
 have key:∀k,k≤n→aiM f (S (n - k))=some r:=by
  intro k
  induction k with
  | zero=>intro _;exact aiN hd
  | succ k ih=>
   intro hk
   have h1:=h (n - (k+1)) (by omega)
   rw [show n - (k+1)+1=n - k by omega] at h1
   rw [aiW h1]
   exact ih (by omega)
 have:=key n (Nat.le_refl _)
 rwa [Nat.sub_self] at this
theorem avi {α:Type} (l:List α) (i:Nat):rd l (i:Int)=l[i]?:=by
 unfold rd
 rw [if_pos (by omega)]
 simp
theorem akn {α:Type} {l:List α} {i:Nat} (h:i<l.length):rd l (i:Int)=some l[i]:=by
 rw [avi,List.getElem?_eq_getElem h]
theorem aiZ {i:Nat} (h:i<9223372036854775807):w64 ((i:Int)+1)=((i+1:Nat):Int):=by
 rw [alv (by omega) (by omega)];omega
theorem copyS {α:Type} {f:Int×List α→Option ((Int×List α) ⊕ List α)} (l z:List α) (hz:z.length=l.length) (hn:l.length<9223372036854775807)
 (h1:∀(i:Nat) (hi:i<l.length) (out:List α),out.length=l.length→f ((i:Int),out)=some (.inl (w64 ((i:Int)+1),out.set i l[i])))
 (h2:∀out:List α,f ((l.length:Int),out)=some (.inr out)):aiM f (0,z)=some l:=by
 have e0:((0:Int),z)=(fun i:Nat=>((i:Int),l.take i++z.drop i)) 0:=by simp
 rw [e0]
 refine amr (fun i:Nat=>((i:Int),l.take i++z.drop i)) l.length (fun i hi=>?_) ?_
 ·rw [h1 i hi _ (by simp;omega),aiZ (by omega)]
  congr 3
  apply List.ext_getElem?
  intro j
  have hl:(l.take i).length=i:=by simp;omega
  have hl2:(l.take (i+1)).length=i+1:=by simp;omega
  by_cases c:j=i
  ·subst c
   rw [List.getElem?_set_self (by simp;omega),List.getElem?_append_left (by omega),List.getElem?_take_of_lt (by omega),List.getElem?_eq_getElem hi]
  ·rw [List.getElem?_set_ne (by omega)]
   by_cases c1:j<i
   ·rw [List.getElem?_append_left (by omega),List.getElem?_append_left (by omega),List.getElem?_take_of_lt c1,List.getElem?_take_of_lt (by omega)]
   ·rw [List.getElem?_append_right (by omega),List.getElem?_append_right (by omega),List.getElem?_drop,List.getElem?_drop,hl,hl2]
    congr 1;omega
 ·rw [h2]
  rw [List.take_length,List.drop_eq_nil_of_le (by omega),List.append_nil]
theorem awr {f:Int→Option (Int ⊕ (Unit ⊕ Bool))} {n:Nat} (hn:n<9223372036854775807) (hf:∀i:Nat,i<n→f (i:Int)=some (.inl (w64 ((i:Int)+1)))) (hd:f (n:Int)=some (.inr (.inl ()))):aiM f 0=some (.inl ()):=by
 have:=amr (fun i:Nat=>(i:Int)) n (f:=f) (fun i hi=>by rw [hf i hi,aiZ (by omega)]) hd
 simpa using this
def iota (k:Int):Nat→List Int
 | 0=>[]
 | n+1=>iota k n++[k+n]
theorem alm (k:Int):∀n,(iota k n).length=n
 | 0=>rfl
 | n+1=>by simp [iota,alm k n]
theorem aws (k:Int):∀n i,i<n→(iota k n)[i]?=some (k+i)
 | n+1,i,h=>by
  simp only [iota]
  by_cases c:i<n
  ·rw [List.getElem?_append_left (by rw [alm];exact c),aws k n i c]
  ·have:i=n:=by omega
   subst this
   rw [List.getElem?_append_right (by rw [alm];omega),alm]
   simp
theorem aA8 {f:Int×Int×List Int→Option ((Int×Int×List Int) ⊕ (Int×List Int))} (l:List Int) {k:Int} (hk:0≤k) (hn:k+l.length<9223372036854775807)
 (h1:∀(k:Int) (i:Nat) (out:List Int),i<out.length→f (k,(i:Int),out)=some (.inl (w64 (k+1),w64 ((i:Int)+1),out.set i k)))
 (h2:∀(k:Int) (out:List Int),f (k,(out.length:Int),out)=some (.inr (k,out))):aiM f (k,0,l)=some (k+l.length,iota k l.length):=by
 have hll:∀i,i≤l.length→(iota k i++l.drop i).length=l.length:=fun i hi=>by simp [alm];omega
 have:=amr (fun i:Nat=>(k+i,(i:Int),iota k i++l.drop i)) l.length (f:=f) (r:=(k+l.length,iota k l.length)) (fun i hi=>?_) ?_
 ·simpa [iota] using this
 ·rw [h1 _ _ _ (by rw [hll i (by omega)];exact hi),aiZ (by omega),alv (by omega) (by omega)]
  have e:(iota k i++l.drop i).set i (k+i)=iota k (i+1)++l.drop (i+1):=by
   rw [List.set_append_right _ _ (by rw [alm];omega),alm,Nat.sub_self,List.drop_eq_getElem_cons hi,List.set_cons_zero]
   simp [iota]
  rw [e]
  congr 3
  omega
 ·have e:=hll l.length (Nat.le_refl _)
  have:=h2 (k+l.length) (iota k l.length++l.drop l.length)
  rw [e] at this
  rw [this]
  simp
theorem aA9 {f:Int×Int→Option ((Int×Int) ⊕ (Int ⊕ Int))} {n:Nat} {k:Int} (hk:0≤k) (hn:k+n<9223372036854775807)
 (h1:∀(i:Nat),i<n→f (k+i,(i:Int))=some (.inl (w64 (k+i+1),w64 ((i:Int)+1))))
 (h2:f (k+n,(n:Int))=some (.inr (.inl (k+n)))):aiM f (k,0)=some (.inl (k+n)):=by
 have:=amr (fun i:Nat=>(k+(i:Int),(i:Int))) n (f:=f) (fun i hi=>?_) h2
 ·simpa using this
 ·rw [h1 i hi,aiZ (by omega),alv (by omega) (by omega)]
  congr 3
  omega
end Go.Pw
