/- Parts of slices, append, calls, regions of many orders: one rule for each shape. Conditions: none. -/
import Derived.Test.YtngbehdgjocndaaGreatSimRc
namespace Go.Sim
open Go.Pw
set_option linter.unusedSimpArgs false
set_option linter.unusedVariables false
noncomputable section
variable {P:Program} {cfg:Cfg} {C:yc} {f nt:Nat} {ops:Array Oper} {l:List Oper} {st st1 st2 X:St} {A A' A1 A2:List (Nat×SV)} {B B' B1 B2:List (Nat×Option Obj)}
variable {d:Nat} {op:Op} {dst:Option Tmp} {ty:TypeId} {pos:String} {aft:Array Edge} {gd:Option (Nat×Bool)}
theorem bn0:bnd (mk A B) none=some none:=rfl
theorem bn1 {y:Operand} {t:Nat} {k:IntKind} {n:Int} (hy:(mk A B).get y= .v false [.im t (.sc (.int k n))]):bnd (mk A B) (some y)=some (some n):=by
 simp only [bnd,hy,SV.int?,Option.map_some]
def lob:Option Int→Int
 | none=>0
 | some l=>l
def hib (n:Nat):Option Int→Int
 | none=>n
 | some h=>h
theorem agB {l:Option Int} {n:Int} (hl:lob l=n) (h:0≤n):(match (generalizing:=false) l with | none=>some 0 | some l=>vU l)=some n.toNat:=by
 cases l with
 | none=>cases hl;rfl
 | some l=>cases hl;simp only [lob] at h;simp only [vU,lob,if_pos h]
theorem agC {l:Option Int} {m:Nat} {n:Int} (hl:hib m l=n) (h:0≤n):(match (generalizing:=false) l with | none=>some m | some l=>vU l)=some n.toNat:=by
 cases l with
 | none=>cases hl;simp [hib]
 | some l=>cases hl;simp only [hib] at h;simp only [vU,hib,if_pos h]
theorem agD {α:Type} {L r:List α} {lo hi:Int}:slc L lo hi=some r↔(0≤lo∧lo≤hi∧hi≤L.length)∧(L.take hi.toNat).drop lo.toNat=r:=by
 unfold slc
 by_cases h:0≤lo∧lo≤hi∧hi≤(L.length:Int)
 ·simp [if_pos h,h]
 ·simp only [if_neg h];constructor
  ·intro e;cases e
  ·intro e;exact absurd e.1 h
theorem alD {t e sz b:Nat} {ks:List (Option Nat)} {ag:Bool} {zs:List RV} (hT:gm P t=some (e,sz,ks,ag,b,zs)):P.underlying t=some (.slice e)∧∃inf,P.info? e=some inf∧inf.size=sz:=by
 unfold gm oG at hT
 obtain ⟨p,h1,hT⟩:=Option.bind_eq_some_iff.1 hT
 obtain ⟨z,h2,hT⟩:=Option.bind_eq_some_iff.1 hT
 split at hT
 ·cases hT
 ·obtain ⟨k,h3,hT⟩:=Option.map_eq_some_iff.1 hT
  split at h1
  ·rename_i e' hu
   obtain ⟨inf,h4,h5⟩:=Option.map_eq_some_iff.1 h1
   cases h5
   cases hT
   exact ⟨hu,inf,h4,rfl⟩
  ·cases h1
theorem aiC {α β:Type} {x:Option α} {k:α→Option β} {a:α} {r:β} (h:x=some a) (h2:k a=some r):x.bind k=some r:=by rw [h];exact h2
theorem Z9 {α:Type} {b:Nat} {L M r:List α}:apd b L M=some r↔(L.length+M.length) *b≤140737488355328∧L++M=r:=by
 unfold apd
 by_cases h:(L.length+M.length) *b≤140737488355328<;>simp [h]
theorem yf {sz o s c t2:Nat} {ob:Obj} {es:List AV} (hL:look none B o=some ob) (hc:ob.cs[c]?=some ⟨.sh,s,t2,.row sz es⟩):(mk A B).elems sz (.own o s c)=some (t2,es):=by
 simp only [St.elems,RV.ac5,St.view,St.WG,qK hL hc rfl,Bool.false_eq_true,if_false,Option.bind_some,Nat.beq_refl,if_true]
theorem gY {α:Type} {ks:List (Option Nat)} {t:Nat} {L:List α} {en:α→AV} (hk:ks.any (·.isSome)=false) (he:∀x,(en x).flat=true):fK ks t (L.map en)=0:=by
 unfold fK
 rw [hk]
 have:(L.map en).all AV.flat=true:=by
  rw [List.all_eq_true]
  intro y hy
  obtain ⟨x,_,rfl⟩:=List.mem_map.1 hy
  exact he x
 rw [this]
 rfl
theorem Ld {ks:List (Option Nat)} {t:Nat} {es:List AV} (hk:ks.any (·.isSome)=true):fK ks t es=t:=by
 unfold fK
 rw [hk]
 rfl
section
variable (hd:Nat.blt d nt=true)
include hd
theorem agE {t:TypeId} {x:Operand} {lo hi:Option Operand} {l h:Option Int} {e sz b:Nat} {ks:List (Option Nat)} {ag:Bool} {zs:List RV} {r r':RV} (hT:gm P t=some (e,sz,ks,ag,b,zs)) (hx:(mk A B).get x= .v false [r])
 (hl:bnd (mk A B) lo=some l) (hh:bnd (mk A B) hi=some h) (hr:(mk A B).reslice sz r l h=some r'):
 aH P cfg C nt ⟨some d,.slice t x lo hi none,ty,pos,aft,gd⟩ (mk A B)=some (mk ((d,.v false [r'])::A) B):=by
 obtain ⟨hu,inf,h1,h2⟩:=alD hT
 subst h2
 rw [alC hl hh]
 simp only [hu,hx,h1,Option.bind_some,hr,hd,if_true]
 rfl
theorem ad1 {α:Type} {t:TypeId} {x:Operand} {lo hi:Option Operand} {l h:Option Int} {lo' hi':Int} {e sz b t2:Nat} {ks:List (Option Nat)} {ag:Bool} {zs:List RV} {L r:List α} {en:α→AV} (hr:slc L lo' hi'=some r) (hT:gm P t=some (e,sz,ks,ag,b,zs)) (hx:(mk A B).get x= .v false [.im t2 (.row sz (L.map en))])
 (hl:bnd (mk A B) lo=some l) (hh:bnd (mk A B) hi=some h) (hlo:lob l=lo') (hhi:hib L.length h=hi'):
 aH P cfg C nt ⟨some d,.slice t x lo hi none,ty,pos,aft,gd⟩ (mk A B)=some (mk ((d,.v false [.im t2 (.row sz (r.map en))])::A) B):=by
 obtain ⟨hb,hr⟩:=agD.1 hr
 refine agE hd hT hx hl hh ?_
 unfold St.reslice
 simp only [St.len,Option.bind_some,List.length_map]
 refine aiC (agB hlo hb.1) (aiC (agC hhi (by omega)) ?_)
 have h1:(Nat.ble lo'.toNat hi'.toNat&&Nat.ble hi'.toNat L.length)=true:=by
  rw [Bool.and_eq_true]
  exact ⟨Nat.ble_eq_true_of_le (by omega),Nat.ble_eq_true_of_le (by omega)⟩
 simp only [Option.bind_some,h1,if_true,Nat.beq_refl,←hr,List.map_drop,List.map_take]
theorem aab {x y:Operand} {t t1 e sz b:Nat} {ats:Array TypeId} {ks:List (Option Nat)} {ag:Bool} {zs:List RV} {rx ry:RV} {td:TypeDesc} (hT:gm P t=some (e,sz,ks,ag,b,zs)) (ha:ats[0]?=some t) (ha1:ats[1]?=some t1) (hu:P.underlying t1=some td) (hs:(∃e2,td= .slice e2)∨td= .string)
 (hx:(mk A B).get x= .v false [rx]) (hy:(mk A B).get y= .v false [ry]) (h:(mk A B).append d ks sz b rx ry=some st1):
 aH P cfg C nt ⟨some d,.call ⟨.builtin .append,#[x,y],ats⟩,ty,pos,aft,gd⟩ (mk A B)=some st1:=by
 unfold gm at hT
 obtain ⟨p,h1,hT⟩:=Option.bind_eq_some_iff.1 hT
 obtain ⟨z,h2,hT⟩:=Option.bind_eq_some_iff.1 hT
 split at hT
 ·cases hT
 ·rename_i hl
  obtain ⟨k,h3,hT⟩:=Option.map_eq_some_iff.1 hT
  cases hT
  rcases hs with ⟨e2,rfl⟩ | rfl
  ·simp only [aH,hd,if_true,Option.bind_some,ha,ha1,hu,h1,h2,if_neg hl,List.map_cons,List.map_nil,hx,hy,h3,Option.getD_some]
   exact h
  ·simp only [aH,hd,if_true,Option.bind_some,ha,ha1,hu,h1,h2,if_neg hl,List.map_cons,List.map_nil,hx,hy,h3,Option.getD_some]
   exact h
theorem oAp {α:Type} {x y:Operand} {t t1 e sz b ty' t2 t3:Nat} {ats:Array TypeId} {ks:List (Option Nat)} {ag:Bool} {zs:List RV} {rx ry:RV} {td:TypeDesc} {L M r:List α} {en:α→AV} (hr:apd b L M=some r) (hb:Nat.blt 0 b=true) (hT:gm P t=some (e,sz,ks,ag,b,zs)) (ha:ats[0]?=some t) (ha1:ats[1]?=some t1) (hu:P.underlying t1=some td) (hs:(∃e2,td= .slice e2)∨td= .string)
 (hx:(mk A B).get x= .v false [rx]) (hy:(mk A B).get y= .v false [ry]) (he:(mk A B).elems sz ry=some (ty',M.map en)) (hf:fK ks ty' (M.map en)=t2)
 (hk:(∃o s c,rx= .own o s c)∨(∃o s c hi,rx= .sub o s c 0 hi)) (htk:(mk A B).take sz rx=some (⟨.sh,t3,.row sz (L.map en)⟩,mk A B')):
 aH P cfg C nt ⟨some d,.call ⟨.builtin .append,#[x,y],ats⟩,ty,pos,aft,gd⟩ (mk A B)=some (mk ((d,.v false [.own d (ja B' d).2 0])::A) ((d,some (zg (ja B' d) false false [⟨.sh,Nat.max t3 t2,.row sz (r.map en)⟩]))::B')):=by
 obtain ⟨h1,rfl⟩:=Z9.1 hr
 refine aab hd hT ha ha1 hu hs hx hy ?_
 have hroom:room ((L.map en).length+(M.map en).length) b=true:=by
  unfold room
  rw [List.length_map,List.length_map,Bool.and_eq_true]
  exact ⟨hb,Nat.ble_eq_true_of_le h1⟩
 rcases hk with ⟨o,s,c,rfl⟩ | ⟨o,s,c,hi,rfl⟩
 ·simp only [St.append,St.BA,he,Option.bind_some,htk,Nat.beq_refl,if_true,hroom,hf,AO,←List.map_append]
  rfl
 ·simp only [St.append,St.BA,he,Option.bind_some,htk,Nat.beq_refl,if_true,hroom,hf,AO,←List.map_append]
  rfl
theorem OI {α:Type} {x y:Operand} {t t1 e sz b ty' t2 t3 o s c:Nat} {ats:Array TypeId} {ks:List (Option Nat)} {ag:Bool} {zs:List RV} {ry:RV} {td:TypeDesc} {L M r:List α} {en:α→AV} {ob:Obj} (hr:apd b L M=some r) (hb:Nat.blt 0 b=true) (hT:gm P t=some (e,sz,ks,ag,b,zs)) (ha:ats[0]?=some t) (ha1:ats[1]?=some t1) (hu:P.underlying t1=some td) (hs:(∃e2,td= .slice e2)∨td= .string)
 (hx:(mk A B).get x= .v false [.own o s c]) (hL:look none B o=some ob) (hc:ob.cs[c]?=some ⟨.sh,s,t3,.row sz (L.map en)⟩) (hy:(mk A B).get y= .v false [ry]) (he:(mk A B).elems sz ry=some (ty',M.map en)) (hf:fK ks ty' (M.map en)=t2):
 aH P cfg C nt ⟨some d,.call ⟨.builtin .append,#[x,y],ats⟩,ty,pos,aft,gd⟩ (mk A B)=some (mk ((d,.v false [.own d (ja ((o,some (ob.bQ c .gone))::B) d).2 0])::A) ((d,some (zg (ja ((o,some (ob.bQ c .gone))::B) d) false false [⟨.sh,Nat.max t3 t2,.row sz (r.map en)⟩]))::(o,some (ob.bQ c .gone))::B)):=
 oAp hd hr hb hT ha ha1 hu hs hx hy he hf (.inl ⟨o,s,c,rfl⟩) (Qw hL hc)
end
end
end Go.Sim
