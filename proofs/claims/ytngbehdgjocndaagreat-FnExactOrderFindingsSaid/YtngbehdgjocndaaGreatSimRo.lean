/- Rows whose elements own rows: one rule for each operation. Conditions: none. -/
import Derived.Test.YtngbehdgjocndaaGreatSimRe
namespace Go.Sim
open Go.Pw
set_option linter.unusedSimpArgs false
set_option linter.unusedVariables false
noncomputable section
variable {P:Program} {cfg:Cfg} {C:yc} {f nt:Nat} {ops:Array Oper} {l:List Oper} {st st1 st2 X:St} {A A' A1 A2:List (Nat×SV)} {B B' B1 B2:List (Nat×Option Obj)}
variable {d:Nat} {op:Op} {dst:Option Tmp} {ty:TypeId} {pos:String} {aft:Array Edge} {gd:Option (Nat×Bool)}
theorem agF {sz o s c n:Nat} {ob:Obj} {t:Nat} {a:AV} (hL:look none B o=some ob) (hc:ob.cs[c]?=some ⟨.dp n,s,t,a⟩):
 (mk A B).take sz (.own o s c)=some (⟨.dp 0,t,a⟩,mk A ((o,some (ob.bQ c .gone))::B)):=by
 simp only [St.take,qK hL hc rfl,Option.bind_some]
 rfl
theorem ad3 {sz o s c i j n t z z2:Nat} {ob:Obj} {es es':List AV} {e:AV} (hL:look none B o=some ob) (hc:ob.cs[c]?=some ⟨.dp n,s,t,.row z es⟩) (hi:es[i]?=some e) (hj:e.cells[j]?=some (.row z2 es')):
 (mk A B).take sz (.inr o s c i j n)=some (⟨.sh,t,.row z2 es'⟩,mk A ((o,some (ob.bQ c (.dd (n+1) i j)))::B)):=by
 simp only [St.take,qK hL hc rfl,Option.bind_some,Nat.beq_refl,if_true,hi,hj]
 rfl
theorem aoe {ks:List (Option Nat)} {o s c n:Nat} {ob:Obj} {t:Nat} {a:AV} (hx:look .qC A d= .v false [.own o s c]) (hL:look none B o=some ob) (hc:ob.cs[c]?=some ⟨.dp n,s,t,a⟩):
 (mk A B).vV ks d=mk ((d,.v false [.im t a])::A) ((o,some (ob.bQ c .imm))::B):=by
 have e:(mk A B).sl d=look .qC A d:=rfl
 simp only [St.vV,e,hx,St.Gx,St.UJ,St.fix,St.view,St.freeze,qK hL hc rfl,Option.bind_some,Option.map_some]
 rfl
theorem aof {α:Type} {t:TypeId} {x y:Operand} {zs:List RV} {ks:List (Option Nat)} {ag ag':Bool} {n o s c i off t1 t2 z z2 n2:Nat} {cs:List RV} {as:List AV} {ob:Obj} {L:List α} {en:α→AV} {v v':α} (hT:tyF P t=some (zs,ks,ag,n)) (hx:(mk A B).get x= .v false [.mpe o s c i off]) (hy:(mk A B).get y= .v ag' cs) (hn:cs.length.beq n=true)
 (hdd:(mk A B).Jw o s c=true) (ht:(mk A B).fF ks cs=some ([⟨.sh,t1,.row z2 as⟩],mk A' B')) (hL:look none B' o=some ob) (hc:ob.cs[c]?=some ⟨.dd n2 i off,s,t2,.row z (L.map en)⟩) (hv:L[i]?=some v) (hs:(en v).splice off [.row z2 as]=some (en v')):
 aH P cfg C nt ⟨none,.store t x y,ty,pos,aft,gd⟩ (mk A B)=some (mk A' ((o,some {ob with cs:=ob.cs.set c ⟨.dp (n2+1),s,Nat.max t1 t2,.row z ((L.set i v').map en)⟩})::B')):=by
 unfold tyF at hT
 obtain ⟨z,h1,hT⟩:=Option.bind_eq_some_iff.1 hT
 obtain ⟨k,h2,hT⟩:=Option.map_eq_some_iff.1 hT
 cases hT
 simp only [aH,Option.isSome_none,Bool.false_eq_true,if_false,hx,SV.one?,Option.bind_some,hy,hn,if_true,h2,St.store,if_pos hdd,ht,qK hL hc rfl,Nat.beq_refl,Bool.and_self,List.getElem?_map,hv,Option.map_some,hs,List.map_set]
 rfl
theorem tkW {ks:List (Option Nat)} {a:AV} {rs:List RV} {xs:List CV} (h:(mk A B).fF ks.tail rs=some (xs,mk A' B')):(mk A B).fF ks (.ws a::rs)=some (⟨.ws,0,a⟩::xs,mk A' B'):=by
 simp only [St.fF,St.take,Option.bind_some,h,Option.map_some]
theorem tkF {ks:List (Option Nat)} {a:AV} {rs:List RV} {xs:List CV} (h:(mk A B).fF ks.tail rs=some (xs,mk A' B')):(mk A B).fF ks (.fr a::rs)=some (⟨.fr,0,a⟩::xs,mk A' B'):=by
 simp only [St.fF,St.take,Option.bind_some,h,Option.map_some]
theorem BF {t:TypeId} {x y:Operand} {zs:List RV} {ks:List (Option Nat)} {ag ag':Bool} {n off t1:Nat} {as:List AV} {u v:Value} (hT:tyF P t=some (zs,ks,ag,n)) (hx:(mk A B).get x= .v false [.ws (.cp as off)]) (hy:(mk A B).get y= .v ag' [.im t1 (.sc u)]) (hn:Nat.beq 1 n=true) (ha:as[off]?=some (.sc v)):
 aH P cfg C nt ⟨none,.store t x y,ty,pos,aft,gd⟩ (mk A B)=some (mk A B):=by
 unfold tyF at hT
 obtain ⟨z,h1,hT⟩:=Option.bind_eq_some_iff.1 hT
 obtain ⟨k,h2,hT⟩:=Option.map_eq_some_iff.1 hT
 cases hT
 have hn':Nat.beq [RV.im t1 (.sc u)].length (P.cellsOf t)=true:=hn
 simp only [aH,Option.isSome_none,Bool.false_eq_true,if_false,hx,SV.one?,Option.bind_some,hy,hn',if_true,h2,St.store,ha]
section
variable (hd:Nat.blt d nt=true)
include hd
theorem alE {x:Operand} {o s c n:Nat} {ob:Obj} {t:Nat} {a:AV} (hx:(mk A B).get x= .v false [.own o s c]) (hne:o.beq d=false) (hL:look none B o=some ob) (hc:ob.cs[c]?=some ⟨.dp n,s,t,a⟩):
 aH P cfg C nt ⟨some d,.assign x,ty,pos,aft,gd⟩ (mk A B)=some (mk ((d,.v false [.own d (ja ((o,some (ob.bQ c .gone))::B) d).2 0])::A) ((d,some (zg (ja ((o,some (ob.bQ c .gone))::B) d) false false [⟨.dp 0,t,a⟩]))::(o,some (ob.bQ c .gone))::B)):=by
 simp only [aH,hx,hd,if_true,Option.bind_some,St.assign,hne,Bool.false_eq_true,if_false,agF hL hc,Option.map_some,AO]
 rfl
theorem alF {α:Type} {t:TypeId} {x i:Operand} {e sz b:Nat} {ks:List (Option Nat)} {ag:Bool} {zs:List RV} {k:IntKind} {m:OM} {t2 t3:Nat} {n:Int} {L:List α} {en:α→AV} {y:α} {o s c:Nat} {ob:Obj} (hr:rd L n=some y) (hT:gm P t=some (e,sz,ks,ag,b,zs)) (hi:(mk A B).get i= .v false [.im t3 (.sc (.int k n))])
 (hx:(mk A B).get x= .v false [.own o s c]) (hL:look none B o=some ob) (hc:ob.cs[c]?=some ⟨m,s,t2,.row sz (L.map en)⟩) (hm:m≠ .gone):
 aH P cfg C nt ⟨some d,.indexAddr t x i,ty,pos,aft,gd⟩ (mk A B)=some (mk ((d,.v false [.mpe o s c n.toNat 0])::A) B):=by
 obtain ⟨h0,h1⟩:=Qx.1 hr
 refine Pv hd hT hi h0 hx ?_
 have hlt:n.toNat< (L.map en).length:=by
  rw [List.length_map]
  exact (List.getElem?_eq_some_iff.1 h1).1
 have hb:Nat.blt n.toNat (L.map en).length=true:=by
  unfold Nat.blt;exact Nat.ble_eq_true_of_le hlt
 simp only [St.ji,qK hL hc rfl,Option.bind_some,Nat.beq_refl,hb,Bool.and_true,if_true]
theorem aog {α:Type} {t:TypeId} {x:Operand} {zs:List RV} {ks:List (Option Nat)} {ag ag':Bool} {n k:Nat} {t2 z:Nat} {L:List α} {en:α→AV} {y:α} {o s c i off:Nat} {ob:Obj} {cs:List RV} (hT:tyF P t=some (zs,ks,ag,n)) (hx:(mk A B).get x= .v false [.mpe o s c i off])
 (hL:look none B o=some ob) (hc:ob.cs[c]?=some ⟨.dp k,s,t2,.row z (L.map en)⟩) (hy:L[i]?=some y) (hb:Nat.ble (off+(if ag then n else 1)) (en y).cells.length=true) (hl:SV.jO ag (Oj o s c i k t2 off (((en y).cells.drop off).take (if ag then n else 1)))=some (.v ag' cs)):
 aH P cfg C nt ⟨some d,.load t x,ty,pos,aft,gd⟩ (mk A B)=some (mk ((d,.v ag' cs)::A) B):=by
 refine oLd hd hT hx ?_
 simp only [St.load,qK hL hc rfl,Option.bind_some,List.getElem?_map,hy,Option.map_some,hb,if_true]
 exact hl
theorem aoh {α β:Type} {x y:Operand} {t t1 e sz b ty' t2 t3 z o s c i j n:Nat} {ats:Array TypeId} {ks:List (Option Nat)} {ag:Bool} {zs:List RV} {ry:RV} {td:TypeDesc} {L M r:List α} {en:α→AV} {ob:Obj} {K:List β} {em:β→AV} {u:β} (hr:apd b L M=some r) (hb:Nat.blt 0 b=true) (hT:gm P t=some (e,sz,ks,ag,b,zs)) (ha:ats[0]?=some t) (ha1:ats[1]?=some t1) (hu:P.underlying t1=some td) (hs:(∃e2,td= .slice e2)∨td= .string)
 (hx:(mk A B).get x= .v false [.inr o s c i j n]) (hL:look none B o=some ob) (hc:ob.cs[c]?=some ⟨.dp n,s,t3,.row z (K.map em)⟩) (hi:K[i]?=some u) (hj:(em u).cells[j]?=some (.row sz (L.map en))) (hy:(mk A B).get y= .v false [ry]) (he:(mk A B).elems sz ry=some (ty',M.map en)) (hf:fK ks ty' (M.map en)=t2):
 aH P cfg C nt ⟨some d,.call ⟨.builtin .append,#[x,y],ats⟩,ty,pos,aft,gd⟩ (mk A B)=some (mk ((d,.v false [.own d (ja ((o,some (ob.bQ c (.dd (n+1) i j)))::B) d).2 0])::A) ((d,some (zg (ja ((o,some (ob.bQ c (.dd (n+1) i j)))::B) d) false false [⟨.sh,Nat.max t3 t2,.row sz (r.map en)⟩]))::(o,some (ob.bQ c (.dd (n+1) i j)))::B)):=by
 obtain ⟨h1,rfl⟩:=Z9.1 hr
 refine aab hd hT ha ha1 hu hs hx hy ?_
 have hroom:room ((L.map en).length+(M.map en).length) b=true:=by
  unfold room
  rw [List.length_map,List.length_map,Bool.and_eq_true]
  exact ⟨hb,Nat.ble_eq_true_of_le h1⟩
 have hi':(K.map em)[i]?=some (em u):=by rw [List.getElem?_map,hi];rfl
 simp only [St.append,St.BA,he,Option.bind_some,ad3 hL hc hi' hj,Nat.beq_refl,if_true,hroom,hf,AO,←List.map_append]
 rfl
theorem Ae {α:Type} {t:TypeId} {x i:Operand} {e sz b:Nat} {ks:List (Option Nat)} {ag:Bool} {zs:List RV} {k:IntKind} {t3:Nat} {n:Int} {L:List α} {en:α→AV} {y:α} (hr:rd L n=some y) (hT:gm P t=some (e,sz,ks,ag,b,zs)) (hi:(mk A B).get i= .v false [.im t3 (.sc (.int k n))])
 (hx:(mk A B).get x= .v false [.ws (.row sz (L.map en))]):
 aH P cfg C nt ⟨some d,.indexAddr t x i,ty,pos,aft,gd⟩ (mk A B)=some (mk ((d,.v false [.ws (.cp (en y).cells 0)])::A) B):=by
 obtain ⟨h0,h1⟩:=Qx.1 hr
 refine Pv hd hT hi h0 hx ?_
 simp only [St.ji,Nat.beq_refl,if_true,List.getElem?_map,h1,Option.map_some]
theorem YN {α:Type} {x:Operand} {ats:Array TypeId} {t e z:Nat} {L:List α} {en:α→AV} (ha:ats[0]?=some t) (hu:P.underlying t=some (.slice e)) (hx:(mk A B).get x= .v false [.ws (.row z (L.map en))]):
 aH P cfg C nt ⟨some d,.call ⟨.builtin .len,#[x],ats⟩,ty,pos,aft,gd⟩ (mk A B)=some (mk ((d,iv L.length)::A) B):=
 oLn hd ha hu hx (fun _ _ h=>by cases h) rfl (List.length_map _)
end
end
end Go.Sim
