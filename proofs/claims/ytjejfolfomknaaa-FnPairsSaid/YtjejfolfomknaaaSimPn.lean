/- Further laws of the plain words: searches, valid lists, numbers. Conditions: none. -/
import Derived.Test.YtjejfolfomknaaaSimPy
namespace Go.Pw
open Go.Sim (min2 max2)
set_option linter.unusedVariables false
theorem XX {α:Type} {f:Int→Option (Int ⊕ (Unit ⊕ Bool))} (l:List α) (V:α→Prop) (hl:l.length<4611686018427387904)
 (h1:∀(i:Nat) (hi:i<l.length),(f (i:Int)=some (.inl (w64 ((i:Int)+1)))∧V l[i])∨f (i:Int)=some (.inr (.inr false))) (h2:f (l.length:Int)=some (.inr (.inl ()))):
 (dB f 0=some (.inl ())∧∀x∈l,V x)∨dB f 0=some (.inr false):=by
 have key:∀(m i:Nat),i+m=l.length→(dB f (i:Int)=some (.inl ())∧∀x∈l.drop i,V x)∨dB f (i:Int)=some (.inr false):=by
  intro m
  induction m with
  | zero=>
   intro i hi
   obtain rfl:i=l.length:=by omega
   exact .inl ⟨dm h2,by rw [List.drop_length];exact fun x hx=>absurd hx List.not_mem_nil⟩
  | succ m ih=>
   intro i hi
   have hi':i<l.length:=by omega
   have hd:l.drop i=l[i]::l.drop (i+1):=List.drop_eq_getElem_cons hi'
   rcases h1 i hi' with ⟨h,hv⟩ | h
   ·rw [jU (by omega)] at h
    rw [jb h]
    rcases ih (i+1) (by omega) with ⟨q1,q2⟩ | q
    ·refine .inl ⟨q1,?_⟩
     rw [hd]
     intro x hx
     rcases List.mem_cons.1 hx with rfl | hx
     ·exact hv
     ·exact q2 x hx
    ·exact .inr q
   ·exact .inr (dm h)
 have:=key l.length 0 (by omega)
 simpa using this
theorem Dv (a b:Int):(b>a∧max2 a b=b)∨(b≤a∧max2 a b=a):=by
 unfold max2
 split
 ·exact .inl ⟨by omega,rfl⟩
 ·exact .inr ⟨by omega,rfl⟩
theorem Dw (a b:Int):(b<a∧min2 a b=b)∨(a≤b∧min2 a b=a):=by
 unfold min2
 split
 ·exact .inl ⟨by omega,rfl⟩
 ·exact .inr ⟨by omega,rfl⟩
theorem rd_some {α:Type} {L:List α} {i:Int} (h0:0≤i) (h1:i<L.length):∃x,rd L i=some x∧x∈L:=by
 have hk:i.toNat<L.length:=by omega
 refine ⟨L[i.toNat],?_,List.getElem_mem hk⟩
 unfold rd
 rw [if_pos h0,List.getElem?_eq_getElem hk]
theorem Nl {i:Nat} (h:i<9223372036854775807) (h0:0<i):w64 ((i:Int) - 1)=((i - 1:Nat):Int):=by
 rw [eG (by omega) (by omega)];omega
def upto:Nat→List Int
 | 0=>[]
 | n+1=>upto n++[(n:Int)]
theorem y8:∀n,(upto n).length=n
 | 0=>rfl
 | n+1=>by simp [upto,y8 n]
theorem uN {n:Nat} {x:Int}:x∈upto n↔0≤x∧x<n:=by
 induction n with
 | zero=>simp [upto]<;>omega
 | succ n ih=>simp [upto,ih];omega
theorem IM:∀n,(upto n).Nodup
 | 0=>List.nodup_nil
 | n+1=>by
  unfold upto
  rw [List.nodup_append]
  refine ⟨IM n,by simp,fun a ha b hb e=>?_⟩
  have:=uN.1 ha
  simp at hb
  omega
theorem JI:∀(M L:List Int),M.Nodup→(∀x∈M,x∈L)→M.length≤L.length:=by
 intro M
 induction M with
 | nil=>intro L _ _;simp
 | cons x M ih=>
  intro L hn hs
  rw [List.nodup_cons] at hn
  have hx:=hs x List.mem_cons_self
  have:=ih (L.erase x) hn.2 (fun y hy=>(List.mem_erase_of_ne (show y≠x from fun e=>hn.1 (by rw [←e];exact hy))).2 (hs y (List.mem_cons_of_mem _ hy)))
  rw [List.length_erase_of_mem hx] at this
  have:=List.length_pos_of_mem hx
  simp only [List.length_cons]
  omega
theorem Un {α:Type} {f:Int×Int→Option ((Int×Int) ⊕ Int)} (l:List α) (g:α→Int) (C:Int) (hC:C*l.length≤4611686018427387904) (hl:l.length<4611686018427387904) (h0:∀x∈l,0≤g x∧g x≤C)
 (h1:∀(s:Int) (i:Nat) (hi:i<l.length),f (s,(i:Int))=some (.inl (w64 (s+g l[i]),w64 ((i:Int)+1)))) (h2:∀s,f (s,(l.length:Int))=some (.inr s)):dB f (0,0)=some ((l.map g).sum)∧0≤(l.map g).sum∧(l.map g).sum≤C*l.length:=by
 have bnd:∀m:List α,(∀x∈m,0≤g x∧g x≤C)→0≤(m.map g).sum∧(m.map g).sum≤C*m.length:=by
  intro m hm
  induction m with
  | nil=>simp
  | cons x m ih=>
   have a:=hm x (List.mem_cons_self)
   have b:=ih (fun y hy=>hm y (List.mem_cons_of_mem _ hy))
   have e:C* ((x::m).length:Int)=C*m.length+C:=by
    rw [List.length_cons]
    have:((m.length+1:Nat):Int)=(m.length:Int)+1:=by omega
    rw [this,Int.mul_add,Int.mul_one]
   rw [List.map_cons,List.sum_cons,e]
   omega
 refine ⟨?_,bnd l h0⟩
 have:=EO (fun i:Nat=>(((l.take i).map g).sum,(i:Int))) l.length (f:=f) (r:=(l.map g).sum) (fun i hi=>by
  have b:=bnd (l.take (i+1)) (fun x hx=>h0 x (List.mem_of_mem_take hx))
  have hle:C* ((l.take (i+1)).length:Int)≤C*l.length:=by
   have hc:0≤C:=by
    have:=h0 _ (List.getElem_mem hi)
    omega
   exact Int.mul_le_mul_of_nonneg_left (by rw [List.length_take];omega) hc
  have e:((l.take (i+1)).map g).sum=((l.take i).map g).sum+g l[i]:=by
   rw [List.take_succ_eq_append_getElem hi,List.map_append,List.sum_append]
   simp
  rw [h1 _ i hi,jU (by omega),eG (by omega) (by omega),e]) (by rw [h2,List.take_length])
 simpa using this
end Go.Pw
