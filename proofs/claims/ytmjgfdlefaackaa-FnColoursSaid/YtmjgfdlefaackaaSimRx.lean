/- slices.Sort and slices.Compact at numbers: the shelf's contracts, in the words that the machine asks for. Conditions: none. -/
import Derived.Shelf.SlicesE.Compact
import Derived.Shelf.SortM.Plain
import Derived.Shelf.SortM.SortNone
import Derived.Test.YtmjgfdlefaackaaSimRv
namespace Go.Sim
open Go.Pw
set_option linter.unusedSimpArgs false
set_option linter.unusedVariables false
theorem FK:∀(l:List Int) (a:Int),cmpL (l++[a])=if l.getLast? =some a then cmpL l else cmpL l++[a]
 | [],a=>rfl
 | [b],a=>by
  show (if some a=some b then [a] else [b,a])=if some b=some a then [b] else [b]++[a]
  by_cases c:a=b
  ·subst c;simp
  ·rw [if_neg (fun e=>c (by injection e)),if_neg (fun e=>c (by injection e with e;exact e.symm))];rfl
 | b::c::t,a=>by
  have ih:=FK (c::t) a
  have hl:(b::c::t).getLast? =(c::t).getLast? :=by simp [List.getLast?_cons_cons]
  rw [hl]
  show (if some c=some b then cmpL ((c::t)++[a]) else b::cmpL ((c::t)++[a]))=if (c::t).getLast? =some a then (if some c=some b then cmpL (c::t) else b::cmpL (c::t)) else (if some c=some b then cmpL (c::t) else b::cmpL (c::t))++[a]
  rw [ih]
  by_cases h1:some c=some b<;>by_cases h2:(c::t).getLast? =some a
  ·rw [if_pos h1,if_pos h2,if_pos h2,if_pos h1]
  ·rw [if_pos h1,if_neg h2,if_neg h2,if_pos h1]
  ·rw [if_neg h1,if_pos h2,if_pos h2,if_neg h1]
  ·rw [if_neg h1,if_neg h2,if_neg h2,if_neg h1];rfl
theorem PI (zs:List Int):Go.Lib.compactUpTo zs.toArray zs.toArray.size=cmpL zs:=by
 have key:∀m,m≤zs.length→Go.Lib.compactUpTo zs.toArray m=cmpL (zs.take m):=by
  intro m
  induction m with
  | zero=>intro _;rfl
  | succ m ih=>
   intro hm
   have hm':m<zs.length:=by omega
   have g:zs.toArray[m]! =zs[m]:=by simp [hm']
   rw [Go.Lib.compactUpTo_succ,ih (by omega),List.take_succ_eq_append_getElem hm',FK,g]
   have hk:Go.Lib.keeps zs.toArray m=!decide ((zs.take m).getLast? =some zs[m]):=by
    unfold Go.Lib.keeps
    rw [g]
    cases m with
    | zero=>simp
    | succ m=>
     have g2:zs.toArray[m+1 - 1]! =zs[m]:=by simp [show m<zs.length by omega]
     rw [g2]
     have hl:(zs.take (m+1)).getLast? =some zs[m]:=by
      rw [List.take_succ_eq_append_getElem (by omega:m<zs.length),List.getLast?_append]
      simp
     rw [hl]
     by_cases c:zs[m]=zs[m+1]
     ·simp [c]
     ·simp [c]
      exact fun e=>c e.symm
   rw [hk]
   by_cases c:(zs.take m).getLast? =some zs[m]
   ·rw [decide_eq_true c,if_pos c];simp
   ·rw [decide_eq_false c,if_neg c];simp
 have:=key zs.length (Nat.le_refl _)
 rw [List.take_length] at this
 simpa using this
end Go.Sim
namespace Go.Proofs
open Go.Shelf Go.RowKit Go.Lib Go.Sort
variable {P:Program} {ρ:Ren}
set_option maxHeartbeats 4000000 in
set_option maxRecDepth 1000000 in
theorem GU (L:SlLaysE.n43 P ρ) (p:Option Addr) (w:World):Calls P (ρ.f 43) #[.slice p 0 0] w fun e w'=>e= .returned (.slice p 0 0)∧∃n,w'={w with drawn:=n}:=by
 have mixed:=L.mixed;have t0:=L.t0;have a0:=L.a0;have z0:=L.z0;have v0:=L.v0;have t3:=L.t3;have a3:=L.a3;have z3:=L.z3;have v3:=L.v3;have t4:=L.t4;have a4:=L.a4;have z4:=L.z4;have v4:=L.v4;have t22:=L.t22;have a22:=L.a22;have z22:=L.z22;have v22:=L.v22;have a23:=L.a23;have z23:=L.z23
 obtain ⟨_,_,FG⟩:=L.f43
 go_enter FG,SlBodyN.n43_ntmps ρ
 go_wp2
 go_ret
 exact ⟨rfl,w.drawn,rfl⟩
end Go.Proofs
