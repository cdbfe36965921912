/- Rows whose elements own rows: one rule for each operation. Conditions: none. -/
import Derived.Test.YthdegfgajfgggaaSimRe
namespace Go.Sim
open Go.Pw
set_option linter.unusedSimpArgs false
set_option linter.unusedVariables false
noncomputable section
variable {P:Program} {cfg:Cfg} {C:CallF} {f nt:Nat} {ops:Array Oper} {l:List Oper} {st st1 st2 X:St} {A A' A1 A2:List (Nat×SV)} {B B' B1 B2:List (Nat×Option Obj)}
variable {d:Nat} {op:Op} {dst:Option Tmp} {ty:TypeId} {pos:String} {aft:Array Edge} {gd:Option (Nat×Bool)}
theorem oStW {t:TypeId} {x y:Operand} {zs:List RV} {ks:List (Option Nat)} {ag ag':Bool} {n off t1:Nat} {as:List AV} {u v:Value} (hT:tyF P t=some (zs,ks,ag,n)) (hx:(mk A B).get x= .v false [.ws (.cp as off)]) (hy:(mk A B).get y= .v ag' [.im t1 (.sc u)]) (hn:Nat.beq 1 n=true) (ha:as[off]?=some (.sc v)):
 evOp P cfg C nt ⟨none,.store t x y,ty,pos,aft,gd⟩ (mk A B)=some (mk A B):=by
 unfold tyF at hT
 obtain ⟨z,h1,hT⟩:=Option.bind_eq_some_iff.1 hT
 obtain ⟨k,h2,hT⟩:=Option.map_eq_some_iff.1 hT
 cases hT
 have hn':Nat.beq [RV.im t1 (.sc u)].length (P.cellsOf t)=true:=hn
 simp only [evOp,Option.isSome_none,Bool.false_eq_true,if_false,hx,SV.one?,Option.bind_some,hy,hn',if_true,h2,St.store,ha]
section
variable (hd:Nat.blt d nt=true)
include hd
theorem oAsR {x:Operand} {a:AV} (hx:(mk A B).get x= .v false [.fr a]):evOp P cfg C nt ⟨some d,.assign x,ty,pos,aft,gd⟩ (mk A B)=some (mk ((d,.v false [.fr a])::A) B):=by
 simp only [evOp,hx,hd,if_true,Option.bind_some];rfl
theorem oIAW {α:Type} {t:TypeId} {x i:Operand} {e sz b:Nat} {ks:List (Option Nat)} {ag:Bool} {zs:List RV} {k:IntKind} {t3:Nat} {n:Int} {L:List α} {en:α→AV} {y:α} (hr:rd L n=some y) (hT:sliceF P t=some (e,sz,ks,ag,b,zs)) (hi:(mk A B).get i= .v false [.im t3 (.sc (.int k n))])
 (hx:(mk A B).get x= .v false [.ws (.row sz (L.map en))]):
 evOp P cfg C nt ⟨some d,.indexAddr t x i,ty,pos,aft,gd⟩ (mk A B)=some (mk ((d,.v false [.ws (.cp (en y).cells 0)])::A) B):=by
 obtain ⟨h0,h1⟩:=rd_iff.1 hr
 refine oIA_gen hd hT hi h0 hx ?_
 simp only [St.elemAddr,Nat.beq_refl,if_true,List.getElem?_map,h1,Option.map_some]
theorem oLnW {α:Type} {x:Operand} {ats:Array TypeId} {t e z:Nat} {L:List α} {en:α→AV} (ha:ats[0]?=some t) (hu:P.underlying t=some (.slice e)) (hx:(mk A B).get x= .v false [.ws (.row z (L.map en))]):
 evOp P cfg C nt ⟨some d,.call ⟨.builtin .len,#[x],ats⟩,ty,pos,aft,gd⟩ (mk A B)=some (mk ((d,iv L.length)::A) B):=
 oLn hd ha hu hx (fun _ _ h=>by cases h) rfl (List.length_map _)
end
end
end Go.Sim
