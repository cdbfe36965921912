/- Laws of the plain words. Conditions: none. -/
import Derived.Test.YtngbehdgjocndaaGreatSimPw
namespace Go.Pw
set_option linter.unusedVariables false
theorem dP {n:Int} (h1:-9223372036854775808≤n) (h2:n≤9223372036854775807):w64 n=n:=by
 simp only [w64,IntKind.wrap,IntKind.signed,IntKind.bits]
 simp
 omega
theorem RN {a b:ByteArray} (h:a.size+b.size≤9223372036854775807):cat a b=some (a++b):=by
 unfold cat
 rw [if_neg (by have:IntKind.i64.max=9223372036854775807:=by decide
                rw [this];omega)]
theorem kC {α β:Type} {f:α→Option (α ⊕ β)} (S:Nat→α) (n:Nat) {r:β} (h:∀i,i<n→f (S i)=some (.inl (S (i+1)))) (hd:f (S n)=some (.inr r)):aT f (S 0)=some r:=by
 have key:∀k,k≤n→aT f (S (n - k))=some r:=by
  intro k
  induction k with
  | zero=>intro _;exact dG hd
  | succ k ih=>
   intro hk
   have h1:=h (n - (k+1)) (by omega)
   rw [show n - (k+1)+1=n - k by omega] at h1
   rw [iO h1]
   exact ih (by omega)
 have:=key n (Nat.le_refl _)
 rwa [Nat.sub_self] at this
theorem RP {α:Type} (l:List α) (i:Nat):rd l (i:Int)=l[i]?:=by
 unfold rd
 rw [if_pos (by omega)]
 simp
theorem dI {α:Type} {l:List α} {i:Nat} (h:i<l.length):rd l (i:Int)=some l[i]:=by
 rw [RP,List.getElem?_eq_getElem h]
theorem dX {i:Nat} (h:i<9223372036854775807):w64 ((i:Int)+1)=((i+1:Nat):Int):=by
 rw [dP (by omega) (by omega)];omega
theorem copyS {α:Type} {f:Int×List α→Option ((Int×List α) ⊕ List α)} (l z:List α) (hz:z.length=l.length) (hn:l.length<9223372036854775807)
 (h1:∀(i:Nat) (hi:i<l.length) (out:List α),out.length=l.length→f ((i:Int),out)=some (.inl (w64 ((i:Int)+1),out.set i l[i])))
 (h2:∀out:List α,f ((l.length:Int),out)=some (.inr out)):aT f (0,z)=some l:=by
 have e0:((0:Int),z)=(fun i:Nat=>((i:Int),l.take i++z.drop i)) 0:=by simp
 rw [e0]
 refine kC (fun i:Nat=>((i:Int),l.take i++z.drop i)) l.length (fun i hi=>?_) ?_
 ·rw [h1 i hi _ (by simp;omega),dX (by omega)]
  congr 3
  apply List.ext_getElem?
  intro j
  have hl:(l.take i).length=i:=by simp;omega
  have hl2:(l.take (i+1)).length=i+1:=by simp;omega
  by_cases c:j=i
  ·subst c
   rw [List.getElem?_set_self (by simp;omega),List.getElem?_append_left (by omega),List.getElem?_take_of_lt (by omega),List.getElem?_eq_getElem hi]
  ·rw [List.getElem?_set_ne (by omega)]
   by_cases c1:j<i
   ·rw [List.getElem?_append_left (by omega),List.getElem?_append_left (by omega),List.getElem?_take_of_lt c1,List.getElem?_take_of_lt (by omega)]
   ·rw [List.getElem?_append_right (by omega),List.getElem?_append_right (by omega),List.getElem?_drop,List.getElem?_drop,hl,hl2]
    congr 1;omega
 ·rw [h2]
  rw [List.take_length,List.drop_eq_nil_of_le (by omega),List.append_nil]
theorem AB {f:Int→Option (Int ⊕ (Unit ⊕ Bool))} {n:Nat} (hn:n<9223372036854775807) (hf:∀i:Nat,i<n→f (i:Int)=some (.inl (w64 ((i:Int)+1)))) (hd:f (n:Int)=some (.inr (.inl ()))):aT f 0=some (.inl ()):=by
 have:=kC (fun i:Nat=>(i:Int)) n (f:=f) (fun i hi=>by rw [hf i hi,dX (by omega)]) hd
 simpa using this
end Go.Pw
