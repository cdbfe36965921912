/- Parts of slices, append, calls, regions of many orders: one rule for each shape. Conditions: none. -/
import Derived.Test.YtmjgfdlefaackaaSimRc
namespace Go.Sim
open Go.Pw
set_option linter.unusedSimpArgs false
set_option linter.unusedVariables false
noncomputable section
variable {P:Program} {cfg:Cfg} {C:o6} {f nt:Nat} {ops:Array Oper} {l:List Oper} {st st1 st2 X:St} {A A' A1 A2:List (Nat×SV)} {B B' B1 B2:List (Nat×Option Obj)}
variable {d:Nat} {op:Op} {dst:Option Tmp} {ty:TypeId} {pos:String} {aft:Array Edge} {gd:Option (Nat×Bool)}
theorem Gs {α:Type} {b:Nat} {L M r:List α}:apd b L M=some r↔(L.length+M.length) *b≤140737488355328∧L++M=r:=by
 unfold apd
 by_cases h:(L.length+M.length) *b≤140737488355328<;>simp [h]
theorem nO {sz o s c t2:Nat} {ob:Obj} {es:List AV} (hL:look none B o=some ob) (hc:ob.cs[c]?=some ⟨.sh,s,t2,.row sz es⟩):(mk A B).elems sz (.own o s c)=some (t2,es):=by
 simp only [St.elems,RV.Lh,St.view,St.FM,jJ hL hc rfl,Bool.false_eq_true,if_false,Option.bind_some,Nat.beq_refl,if_true]
theorem UU {sz t2:Nat} {es:List AV}:(mk A B).elems sz (.im t2 (.row sz es))=some (t2,es):=by
 simp only [St.elems,RV.Lh,St.view,St.FM,Bool.false_eq_true,if_false,Option.bind_some,Nat.beq_refl,if_true]
 rfl
theorem fC {α:Type} {ks:List (Option Nat)} {t:Nat} {L:List α} {en:α→AV} (hk:ks.any (·.isSome)=false) (he:∀x,(en x).flat=true):aY ks t (L.map en)=0:=by
 unfold aY
 rw [hk]
 have:(L.map en).all AV.flat=true:=by
  rw [List.all_eq_true]
  intro y hy
  obtain ⟨x,_,rfl⟩:=List.mem_map.1 hy
  exact he x
 rw [this]
 rfl
theorem UW {ks:List (Option Nat)} {t:Nat} {es:List AV} (hk:ks.any (·.isSome)=true):aY ks t es=t:=by
 unfold aY
 rw [hk]
 rfl
section
variable (hd:Nat.blt d nt=true)
include hd
theorem KC {x y:Operand} {t t1 e sz b:Nat} {ats:Array TypeId} {ks:List (Option Nat)} {ag:Bool} {zs:List RV} {rx ry:RV} {td:TypeDesc} (hT:jE P t=some (e,sz,ks,ag,b,zs)) (ha:ats[0]?=some t) (ha1:ats[1]?=some t1) (hu:P.underlying t1=some td) (hs:(∃e2,td= .slice e2)∨td= .string)
 (hx:(mk A B).get x= .v false [rx]) (hy:(mk A B).get y= .v false [ry]) (h:(mk A B).append d ks sz b rx ry=some st1):
 ah P cfg C nt ⟨some d,.call ⟨.builtin .append,#[x,y],ats⟩,ty,pos,aft,gd⟩ (mk A B)=some st1:=by
 unfold jE at hT
 obtain ⟨p,h1,hT⟩:=Option.bind_eq_some_iff.1 hT
 obtain ⟨z,h2,hT⟩:=Option.bind_eq_some_iff.1 hT
 split at hT
 ·cases hT
 ·rename_i hl
  obtain ⟨k,h3,hT⟩:=Option.map_eq_some_iff.1 hT
  cases hT
  rcases hs with ⟨e2,rfl⟩ | rfl
  ·simp only [ah,hd,if_true,Option.bind_some,ha,ha1,hu,h1,h2,if_neg hl,List.map_cons,List.map_nil,hx,hy,h3,Option.getD_some]
   exact h
  ·simp only [ah,hd,if_true,Option.bind_some,ha,ha1,hu,h1,h2,if_neg hl,List.map_cons,List.map_nil,hx,hy,h3,Option.getD_some]
   exact h
theorem oAp {α:Type} {x y:Operand} {t t1 e sz b ty' t2 t3:Nat} {ats:Array TypeId} {ks:List (Option Nat)} {ag:Bool} {zs:List RV} {rx ry:RV} {td:TypeDesc} {L M r:List α} {en:α→AV} (hr:apd b L M=some r) (hb:Nat.blt 0 b=true) (hT:jE P t=some (e,sz,ks,ag,b,zs)) (ha:ats[0]?=some t) (ha1:ats[1]?=some t1) (hu:P.underlying t1=some td) (hs:(∃e2,td= .slice e2)∨td= .string)
 (hx:(mk A B).get x= .v false [rx]) (hy:(mk A B).get y= .v false [ry]) (he:(mk A B).elems sz ry=some (ty',M.map en)) (hf:aY ks ty' (M.map en)=t2)
 (hk:(∃o s c,rx= .own o s c)∨(∃o s c hi,rx= .sub o s c 0 hi)) (htk:(mk A B).take sz rx=some (⟨.sh,t3,.row sz (L.map en)⟩,mk A B')):
 ah P cfg C nt ⟨some d,.call ⟨.builtin .append,#[x,y],ats⟩,ty,pos,aft,gd⟩ (mk A B)=some (mk ((d,.v false [.own d (dX B' d).2 0])::A) ((d,some (gW (dX B' d) false false [⟨.sh,Nat.max t3 t2,.row sz (r.map en)⟩]))::B')):=by
 obtain ⟨h1,rfl⟩:=Gs.1 hr
 refine KC hd hT ha ha1 hu hs hx hy ?_
 have hroom:room ((L.map en).length+(M.map en).length) b=true:=by
  unfold room
  rw [List.length_map,List.length_map,Bool.and_eq_true]
  exact ⟨hb,Nat.ble_eq_true_of_le h1⟩
 rcases hk with ⟨o,s,c,rfl⟩ | ⟨o,s,c,hi,rfl⟩
 ·simp only [St.append,St.rM,he,Option.bind_some,htk,Nat.beq_refl,if_true,hroom,hf,pF,←List.map_append]
  rfl
 ·simp only [St.append,St.rM,he,Option.bind_some,htk,Nat.beq_refl,if_true,hroom,hf,pF,←List.map_append]
  rfl
theorem yQ {α:Type} {x y:Operand} {t t1 e sz b ty' t2 t3 o s c:Nat} {ats:Array TypeId} {ks:List (Option Nat)} {ag:Bool} {zs:List RV} {ry:RV} {td:TypeDesc} {L M r:List α} {en:α→AV} {ob:Obj} (hr:apd b L M=some r) (hb:Nat.blt 0 b=true) (hT:jE P t=some (e,sz,ks,ag,b,zs)) (ha:ats[0]?=some t) (ha1:ats[1]?=some t1) (hu:P.underlying t1=some td) (hs:(∃e2,td= .slice e2)∨td= .string)
 (hx:(mk A B).get x= .v false [.own o s c]) (hL:look none B o=some ob) (hc:ob.cs[c]?=some ⟨.sh,s,t3,.row sz (L.map en)⟩) (hy:(mk A B).get y= .v false [ry]) (he:(mk A B).elems sz ry=some (ty',M.map en)) (hf:aY ks ty' (M.map en)=t2):
 ah P cfg C nt ⟨some d,.call ⟨.builtin .append,#[x,y],ats⟩,ty,pos,aft,gd⟩ (mk A B)=some (mk ((d,.v false [.own d (dX ((o,some (ob.aA c .gone))::B) d).2 0])::A) ((d,some (gW (dX ((o,some (ob.aA c .gone))::B) d) false false [⟨.sh,Nat.max t3 t2,.row sz (r.map en)⟩]))::(o,some (ob.aA c .gone))::B)):=
 oAp hd hr hb hT ha ha1 hu hs hx hy he hf (.inl ⟨o,s,c,rfl⟩) (kL hL hc)
end
end
end Go.Sim
