/- Further laws of the plain words: searches, valid lists, numbers. Conditions: none. -/
import Derived.Test.YthdegfgajfgggaaDoorSimPy
namespace Go.Pw
open Go.Sim (min2 max2)
set_option linter.unusedVariables false
theorem max2_cases (a b:Int):(b>a∧max2 a b=b)∨(b≤a∧max2 a b=a):=by
 unfold max2
 split
 ·exact .inl ⟨by omega,rfl⟩
 ·exact .inr ⟨by omega,rfl⟩
theorem max2_comm (a b:Int):max2 a b=max2 b a:=by
 have:=max2_cases a b
 have:=max2_cases b a
 omega
theorem loop_sum {α:Type} {f:Int×Int→Option ((Int×Int) ⊕ Int)} (l:List α) (g:α→Int) (C:Int) (hC:C*l.length≤4611686018427387904) (hl:l.length<4611686018427387904) (h0:∀x∈l,0≤g x∧g x≤C)
 (h1:∀(s:Int) (i:Nat) (hi:i<l.length),f (s,(i:Int))=some (.inl (w64 (s+g l[i]),w64 ((i:Int)+1)))) (h2:∀s,f (s,(l.length:Int))=some (.inr s)):loopO f (0,0)=some ((l.map g).sum)∧0≤(l.map g).sum∧(l.map g).sum≤C*l.length:=by
 have bnd:∀m:List α,(∀x∈m,0≤g x∧g x≤C)→0≤(m.map g).sum∧(m.map g).sum≤C*m.length:=by
  intro m hm
  induction m with
  | nil=>simp
  | cons x m ih=>
   have a:=hm x (List.mem_cons_self)
   have b:=ih (fun y hy=>hm y (List.mem_cons_of_mem _ hy))
   have e:C* ((x::m).length:Int)=C*m.length+C:=by
    rw [List.length_cons]
    have:((m.length+1:Nat):Int)=(m.length:Int)+1:=by omega
    rw [this,Int.mul_add,Int.mul_one]
   rw [List.map_cons,List.sum_cons,e]
   omega
 refine ⟨?_,bnd l h0⟩
 have:=loopO_for (fun i:Nat=>(((l.take i).map g).sum,(i:Int))) l.length (f:=f) (r:=(l.map g).sum) (fun i hi=>by
  have b:=bnd (l.take (i+1)) (fun x hx=>h0 x (List.mem_of_mem_take hx))
  have hle:C* ((l.take (i+1)).length:Int)≤C*l.length:=by
   have hc:0≤C:=by
    have:=h0 _ (List.getElem_mem hi)
    omega
   exact Int.mul_le_mul_of_nonneg_left (by rw [List.length_take];omega) hc
  have e:((l.take (i+1)).map g).sum=((l.take i).map g).sum+g l[i]:=by
   rw [List.take_succ_eq_append_getElem hi,List.map_append,List.sum_append]
   simp
  rw [h1 _ i hi,w64_succ (by omega),w64_id (by omega) (by omega),e]) (by rw [h2,List.take_length])
 simpa using this
end Go.Pw
