/- Laws of the plain words. Conditions: none. -/
import Derived.Test.YtjejfolfomknaaaSimPw
namespace Go.Pw
set_option linter.unusedVariables false
theorem eG {n:Int} (h1:-9223372036854775808≤n) (h2:n≤9223372036854775807):w64 n=n:=by
 simp only [w64,IntKind.wrap,IntKind.signed,IntKind.bits]
 simp
 omega
theorem TN {a b:ByteArray} (h:a.size+b.size≤9223372036854775807):cat a b=some (a++b):=by
 unfold cat
 rw [if_neg (by have:IntKind.i64.max=9223372036854775807:=by decide
                rw [this];omega)]
theorem EO {α β:Type} {f:α→Option (α ⊕ β)} (S:Nat→α) (n:Nat) {r:β} (h:∀i,i<n→f (S i)=some (.inl (S (i+1)))) (hd:f (S n)=some (.inr r)):dB f (S 0)=some r:=by
 have key:∀k,k≤n→dB f (S (n - k))=some r:=by
  intro k
  induction k with
  | zero=>intro _;exact dm hd
  | succ k ih=>
   intro hk
   have h1:=h (n - (k+1)) (by omega)
   rw [show n - (k+1)+1=n - k by omega] at h1
   rw [jb h1]
   exact ih (by omega)
 have:=key n (Nat.le_refl _)
 rwa [Nat.sub_self] at this
theorem Ol {α:Type} (l:List α) (i:Nat):rd l (i:Int)=l[i]?:=by
 unfold rd
 rw [if_pos (by omega)]
 simp
theorem uq {α:Type} {l:List α} {i:Nat} (h:i<l.length):rd l (i:Int)=some l[i]:=by
 rw [Ol,List.getElem?_eq_getElem h]
theorem jU {i:Nat} (h:i<9223372036854775807):w64 ((i:Int)+1)=((i+1:Nat):Int):=by
 rw [eG (by omega) (by omega)];omega
end Go.Pw
