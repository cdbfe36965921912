/- Rows whose elements own rows: one rule for each operation. Conditions: none. -/
import Derived.Test.YtnjgcdpleghciaaGreatSimRe
namespace Go.Sim
open Go.Pw
set_option linter.unusedSimpArgs false
set_option linter.unusedVariables false
noncomputable section
variable {P:Program} {cfg:Cfg} {C:vM} {f nt:Nat} {ops:Array Oper} {l:List Oper} {st st1 st2 X:St} {A A' A1 A2:List (Nat×SV)} {B B' B1 B2:List (Nat×Option Obj)}
variable {d:Nat} {op:Op} {dst:Option Tmp} {ty:TypeId} {pos:String} {aft:Array Edge} {gd:Option (Nat×Bool)}
theorem Jz {sz o s c n:Nat} {ob:Obj} {t:Nat} {a:AV} (hL:look none B o=some ob) (hc:ob.cs[c]?=some ⟨.dp n,s,t,a⟩):
 (mk A B).take sz (.own o s c)=some (⟨.dp 0,t,a⟩,mk A ((o,some (ob.aP c .gone))::B)):=by
 simp only [St.take,kT hL hc rfl,Option.bind_some]
 rfl
theorem Xq {sz o s c i j n t z z2:Nat} {ob:Obj} {es es':List AV} {e:AV} (hL:look none B o=some ob) (hc:ob.cs[c]?=some ⟨.dp n,s,t,.row z es⟩) (hi:es[i]?=some e) (hj:e.cells[j]?=some (.row z2 es')):
 (mk A B).take sz (.inr o s c i j n)=some (⟨.sh,t,.row z2 es'⟩,mk A ((o,some (ob.aP c (.dd (n+1) i j)))::B)):=by
 simp only [St.take,kT hL hc rfl,Option.bind_some,Nat.beq_refl,if_true,hi,hj]
 rfl
theorem tkD {ks:List (Option Nat)} {o s c n:Nat} {ob:Obj} {t:Nat} {a:AV} {rs:List RV} {xs:List CV} (hL:look none B o=some ob) (hc:ob.cs[c]?=some ⟨.dp n,s,t,a⟩)
 (h:(mk A ((o,some (ob.aP c .gone))::B)).dD ks.tail rs=some (xs,mk A' B')):(mk A B).dD ks (.own o s c::rs)=some (⟨.dp 0,t,a⟩::xs,mk A' B'):=by
 simp only [St.dD,Jz hL hc,Option.bind_some,h,Option.map_some]
theorem agc {ks:List (Option Nat)} {o s c n:Nat} {ob:Obj} {t:Nat} {a:AV} (hx:look .oG A d= .v false [.own o s c]) (hL:look none B o=some ob) (hc:ob.cs[c]?=some ⟨.dp n,s,t,a⟩):
 (mk A B).rE ks d=mk ((d,.v false [.im t a])::A) ((o,some (ob.aP c .imm))::B):=by
 have e:(mk A B).sl d=look .oG A d:=rfl
 simp only [St.rE,e,hx,St.CE,St.NY,St.fix,St.view,St.freeze,kT hL hc rfl,Option.bind_some,Option.map_some]
 rfl
theorem KG {α:Type} {t:TypeId} {x y:Operand} {zs:List RV} {ks:List (Option Nat)} {ag ag':Bool} {n o s c i off t1 t2 z z2 n2:Nat} {cs:List RV} {as:List AV} {ob:Obj} {L:List α} {en:α→AV} {v v':α} (hT:tyF P t=some (zs,ks,ag,n)) (hx:(mk A B).get x= .v false [.mpe o s c i off]) (hy:(mk A B).get y= .v ag' cs) (hn:cs.length.beq n=true)
 (hdd:(mk A B).ED o s c=true) (ht:(mk A B).dD ks cs=some ([⟨.sh,t1,.row z2 as⟩],mk A' B')) (hL:look none B' o=some ob) (hc:ob.cs[c]?=some ⟨.dd n2 i off,s,t2,.row z (L.map en)⟩) (hv:L[i]?=some v) (hs:(en v).splice off [.row z2 as]=some (en v')):
 aC P cfg C nt ⟨none,.store t x y,ty,pos,aft,gd⟩ (mk A B)=some (mk A' ((o,some {ob with cs:=ob.cs.set c ⟨.dp (n2+1),s,Nat.max t1 t2,.row z ((L.set i v').map en)⟩})::B')):=by
 unfold tyF at hT
 obtain ⟨z,h1,hT⟩:=Option.bind_eq_some_iff.1 hT
 obtain ⟨k,h2,hT⟩:=Option.map_eq_some_iff.1 hT
 cases hT
 simp only [aC,Option.isSome_none,Bool.false_eq_true,if_false,hx,SV.one?,Option.bind_some,hy,hn,if_true,h2,St.store,if_pos hdd,ht,kT hL hc rfl,Nat.beq_refl,Bool.and_self,List.getElem?_map,hv,Option.map_some,hs,List.map_set]
 rfl
theorem tkW {ks:List (Option Nat)} {a:AV} {rs:List RV} {xs:List CV} (h:(mk A B).dD ks.tail rs=some (xs,mk A' B')):(mk A B).dD ks (.ws a::rs)=some (⟨.ws,0,a⟩::xs,mk A' B'):=by
 simp only [St.dD,St.take,Option.bind_some,h,Option.map_some]
theorem tkF {ks:List (Option Nat)} {a:AV} {rs:List RV} {xs:List CV} (h:(mk A B).dD ks.tail rs=some (xs,mk A' B')):(mk A B).dD ks (.fr a::rs)=some (⟨.fr,0,a⟩::xs,mk A' B'):=by
 simp only [St.dD,St.take,Option.bind_some,h,Option.map_some]
theorem Y3 {t:TypeId} {x y:Operand} {zs:List RV} {ks:List (Option Nat)} {ag ag':Bool} {n off t1:Nat} {as:List AV} {u v:Value} (hT:tyF P t=some (zs,ks,ag,n)) (hx:(mk A B).get x= .v false [.ws (.cp as off)]) (hy:(mk A B).get y= .v ag' [.im t1 (.sc u)]) (hn:Nat.beq 1 n=true) (ha:as[off]?=some (.sc v)):
 aC P cfg C nt ⟨none,.store t x y,ty,pos,aft,gd⟩ (mk A B)=some (mk A B):=by
 unfold tyF at hT
 obtain ⟨z,h1,hT⟩:=Option.bind_eq_some_iff.1 hT
 obtain ⟨k,h2,hT⟩:=Option.map_eq_some_iff.1 hT
 cases hT
 have hn':Nat.beq [RV.im t1 (.sc u)].length (P.cellsOf t)=true:=hn
 simp only [aC,Option.isSome_none,Bool.false_eq_true,if_false,hx,SV.one?,Option.bind_some,hy,hn',if_true,h2,St.store,ha]
section
variable (hd:Nat.blt d nt=true)
include hd
theorem aer {x:Operand} {o s c n:Nat} {ob:Obj} {t:Nat} {a:AV} (hx:(mk A B).get x= .v false [.own o s c]) (hne:o.beq d=false) (hL:look none B o=some ob) (hc:ob.cs[c]?=some ⟨.dp n,s,t,a⟩):
 aC P cfg C nt ⟨some d,.assign x,ty,pos,aft,gd⟩ (mk A B)=some (mk ((d,.v false [.own d (iD ((o,some (ob.aP c .gone))::B) d).2 0])::A) ((d,some (rF (iD ((o,some (ob.aP c .gone))::B) d) false false [⟨.dp 0,t,a⟩]))::(o,some (ob.aP c .gone))::B)):=by
 simp only [aC,hx,hd,if_true,Option.bind_some,St.assign,hne,Bool.false_eq_true,if_false,Jz hL hc,Option.map_some,tY]
 rfl
theorem Hu {α:Type} {t:TypeId} {x i:Operand} {e sz b:Nat} {ks:List (Option Nat)} {ag:Bool} {zs:List RV} {k:IntKind} {m:OM} {t2 t3:Nat} {n:Int} {L:List α} {en:α→AV} {y:α} {o s c:Nat} {ob:Obj} (hr:rd L n=some y) (hT:gI P t=some (e,sz,ks,ag,b,zs)) (hi:(mk A B).get i= .v false [.im t3 (.sc (.int k n))])
 (hx:(mk A B).get x= .v false [.own o s c]) (hL:look none B o=some ob) (hc:ob.cs[c]?=some ⟨m,s,t2,.row sz (L.map en)⟩) (hm:m≠ .gone):
 aC P cfg C nt ⟨some d,.indexAddr t x i,ty,pos,aft,gd⟩ (mk A B)=some (mk ((d,.v false [.mpe o s c n.toNat 0])::A) B):=by
 obtain ⟨h0,h1⟩:=KF.1 hr
 refine Jv hd hT hi h0 hx ?_
 have hlt:n.toNat< (L.map en).length:=by
  rw [List.length_map]
  exact (List.getElem?_eq_some_iff.1 h1).1
 have hb:Nat.blt n.toNat (L.map en).length=true:=by
  unfold Nat.blt;exact Nat.ble_eq_true_of_le hlt
 simp only [St.je,kT hL hc rfl,Option.bind_some,Nat.beq_refl,hb,Bool.and_true,if_true]
theorem aes {α:Type} {t:TypeId} {x:Operand} {zs:List RV} {ks:List (Option Nat)} {ag ag':Bool} {n k:Nat} {t2 z:Nat} {L:List α} {en:α→AV} {y:α} {o s c i off:Nat} {ob:Obj} {cs:List RV} (hT:tyF P t=some (zs,ks,ag,n)) (hx:(mk A B).get x= .v false [.mpe o s c i off])
 (hL:look none B o=some ob) (hc:ob.cs[c]?=some ⟨.dp k,s,t2,.row z (L.map en)⟩) (hy:L[i]?=some y) (hb:Nat.ble (off+(if ag then n else 1)) (en y).cells.length=true) (hl:SV.jD ag (II o s c i k t2 off (((en y).cells.drop off).take (if ag then n else 1)))=some (.v ag' cs)):
 aC P cfg C nt ⟨some d,.load t x,ty,pos,aft,gd⟩ (mk A B)=some (mk ((d,.v ag' cs)::A) B):=by
 refine oLd hd hT hx ?_
 simp only [St.load,kT hL hc rfl,Option.bind_some,List.getElem?_map,hy,Option.map_some,hb,if_true]
 exact hl
theorem KH {α β:Type} {x y:Operand} {t t1 e sz b ty' t2 t3 z o s c i j n:Nat} {ats:Array TypeId} {ks:List (Option Nat)} {ag:Bool} {zs:List RV} {ry:RV} {td:TypeDesc} {L M r:List α} {en:α→AV} {ob:Obj} {K:List β} {em:β→AV} {u:β} (hr:apd b L M=some r) (hb:Nat.blt 0 b=true) (hT:gI P t=some (e,sz,ks,ag,b,zs)) (ha:ats[0]?=some t) (ha1:ats[1]?=some t1) (hu:P.underlying t1=some td) (hs:(∃e2,td= .slice e2)∨td= .string)
 (hx:(mk A B).get x= .v false [.inr o s c i j n]) (hL:look none B o=some ob) (hc:ob.cs[c]?=some ⟨.dp n,s,t3,.row z (K.map em)⟩) (hi:K[i]?=some u) (hj:(em u).cells[j]?=some (.row sz (L.map en))) (hy:(mk A B).get y= .v false [ry]) (he:(mk A B).elems sz ry=some (ty',M.map en)) (hf:dO ks ty' (M.map en)=t2):
 aC P cfg C nt ⟨some d,.call ⟨.builtin .append,#[x,y],ats⟩,ty,pos,aft,gd⟩ (mk A B)=some (mk ((d,.v false [.own d (iD ((o,some (ob.aP c (.dd (n+1) i j)))::B) d).2 0])::A) ((d,some (rF (iD ((o,some (ob.aP c (.dd (n+1) i j)))::B) d) false false [⟨.sh,Nat.max t3 t2,.row sz (r.map en)⟩]))::(o,some (ob.aP c (.dd (n+1) i j)))::B)):=by
 obtain ⟨h1,rfl⟩:=Jy.1 hr
 refine OE hd hT ha ha1 hu hs hx hy ?_
 have hroom:room ((L.map en).length+(M.map en).length) b=true:=by
  unfold room
  rw [List.length_map,List.length_map,Bool.and_eq_true]
  exact ⟨hb,Nat.ble_eq_true_of_le h1⟩
 have hi':(K.map em)[i]?=some (em u):=by rw [List.getElem?_map,hi];rfl
 simp only [St.append,St.wC,he,Option.bind_some,Xq hL hc hi' hj,Nat.beq_refl,if_true,hroom,hf,tY,←List.map_append]
 rfl
theorem agd {β:Type} {t:TypeId} {x:Operand} {e sz b:Nat} {ks:List (Option Nat)} {ag:Bool} {zs:List RV} {o s c t3 z:Nat} {es:List AV} {ob:Obj} {u:β} {em:β→AV} (hT:gI P t=some (e,sz,ks,ag,b,zs)) (hs1:sz.beq 1=true) (hx:(mk A B).get x= .v false [.own o s c]) (hL:look none B o=some ob) (hc:ob.cs[c]?=some ⟨.sh,s,t3,.row z es⟩) (he:em u= .row z es) (hdp:cfg.deep nt d=true):
 aC P cfg C nt ⟨some d,.buildSlice t 1 #[(0,x)],ty,pos,aft,gd⟩ (mk A B)=some (mk ((d,.v false [.own d (iD ((o,some (ob.aP c .gone))::B) d).2 0])::A) ((d,some (rF (iD ((o,some (ob.aP c .gone))::B) d) false false [⟨.dp 0,t3,.row sz (List.map em [u])⟩]))::(o,some (ob.aP c .gone))::B)):=by
 unfold gI at hT
 obtain ⟨p,h1,hT⟩:=Option.bind_eq_some_iff.1 hT
 obtain ⟨z',h2,hT⟩:=Option.bind_eq_some_iff.1 hT
 split at hT
 ·cases hT
 ·obtain ⟨k,h3,hT⟩:=Option.map_eq_some_iff.1 hT
  cases hT
  have hsz:=Nat.eq_of_beq_eq_true hs1
  have hn:(Nat.beq 1 (#[(0,x)]:Array (Nat×Operand)).size&&Nat.blt 0 p.2&&Nat.ble (1*p.2) 16777216)=true:=by rw [hsz];rfl
  have hd1:((#[(0,x)]:Array (Nat×Operand)).size.beq 1&&cfg.deep nt d)=true:=by rw [hdp];rfl
  simp only [aC,hd,if_true,Option.bind_some,h1,h2,h3,hn,hd1,cond_true,List.map_cons,List.map_nil,hx,St.Bf,hs1,Ak hL hc,tY,he]
  rfl
theorem aet {β:Type} {x y:Operand} {t t1 e sz b t2 t3 o s c o2 s2 c2 n n2:Nat} {ats:Array TypeId} {ks:List (Option Nat)} {ag:Bool} {zs:List RV} {td:TypeDesc} {L M r:List β} {em:β→AV} {ob ob2:Obj} (hr:apd b L M=some r) (hb:Nat.blt 0 b=true) (hT:gI P t=some (e,sz,ks,ag,b,zs)) (ha:ats[0]?=some t) (ha1:ats[1]?=some t1) (hu:P.underlying t1=some td) (hs:(∃e2,td= .slice e2)∨td= .string)
 (hx:(mk A B).get x= .v false [.own o s c]) (hL:look none B o=some ob) (hc:ob.cs[c]?=some ⟨.dp n,s,t3,.row sz (L.map em)⟩) (hy:(mk A B).get y= .v false [.own o2 s2 c2]) (hL2:look none B o2=some ob2) (hc2:ob2.cs[c2]?=some ⟨.dp n2,s2,t2,.row sz (M.map em)⟩) (hne:o2.beq o=false):
 aC P cfg C nt ⟨some d,.call ⟨.builtin .append,#[x,y],ats⟩,ty,pos,aft,gd⟩ (mk A B)=some (mk ((d,.v false [.own d (iD ((o2,some (ob2.aP c2 .gone))::(o,some (ob.aP c .gone))::B) d).2 0])::A) ((d,some (rF (iD ((o2,some (ob2.aP c2 .gone))::(o,some (ob.aP c .gone))::B) d) false false [⟨.dp 0,Nat.max t3 t2,.row sz (r.map em)⟩]))::(o2,some (ob2.aP c2 .gone))::(o,some (ob.aP c .gone))::B)):=by
 obtain ⟨h1,rfl⟩:=Jy.1 hr
 refine OE hd hT ha ha1 hu hs hx hy ?_
 have hroom:room ((L.map em).length+(M.map em).length) b=true:=by
  unfold room
  rw [List.length_map,List.length_map,Bool.and_eq_true]
  exact ⟨hb,Nat.ble_eq_true_of_le h1⟩
 have hdp:(mk A B).JC (.own o2 s2 c2)=true:=by simp only [St.JC,kT hL2 hc2 rfl]
 have hel:(mk A B).elems sz (.own o2 s2 c2)=none:=by
  simp only [St.elems,RV.Ru,hdp,if_true]
 have hL2':look none ((o,some (ob.aP c .gone))::B) o2=some ob2:=by
  simp only [look,hne,cond_false];exact hL2
 simp only [St.append,St.wC,hel,Option.bind_none,Option.none_or,St.Be,Jz hL hc,Option.bind_some,Jz hL2' hc2,Nat.beq_refl,hroom,Bool.and_self,if_true,tY,←List.map_append]
 rfl
theorem age {t:TypeId} {x:Operand} {zs:List RV} {ks:List (Option Nat)} {ag ag':Bool} {n:Nat} {cs:List RV} {xs ys:List CV} (hT:tyF P t=some (zs,ks,ag,n)) (hg:(mk A B).get x= .v ag' cs) (hx:(mk A B).dD ks cs=some (xs,mk A' B')) (hdc:JF cfg nt d xs=ys):
 aC P cfg C nt ⟨some d,.box t x,ty,pos,aft,gd⟩ (mk A B)=some (mk ((d,.v false [.mp d (iD B' d).1 0])::A') ((d,some (rF (iD B' d) true ag ys))::B')):=by
 unfold tyF at hT
 obtain ⟨z,h1,hT⟩:=Option.bind_eq_some_iff.1 hT
 obtain ⟨k,h2,hT⟩:=Option.map_eq_some_iff.1 hT
 cases hT
 simp only [aC,hd,if_true,Option.bind_some,hg,h1,h2,hx,Option.map_some,hdc,tY]
 rfl
theorem Xr {α:Type} {t:TypeId} {x i:Operand} {e sz b:Nat} {ks:List (Option Nat)} {ag:Bool} {zs:List RV} {k:IntKind} {t3:Nat} {n:Int} {L:List α} {en:α→AV} {y:α} (hr:rd L n=some y) (hT:gI P t=some (e,sz,ks,ag,b,zs)) (hi:(mk A B).get i= .v false [.im t3 (.sc (.int k n))])
 (hx:(mk A B).get x= .v false [.ws (.row sz (L.map en))]):
 aC P cfg C nt ⟨some d,.indexAddr t x i,ty,pos,aft,gd⟩ (mk A B)=some (mk ((d,.v false [.ws (.cp (en y).cells 0)])::A) B):=by
 obtain ⟨h0,h1⟩:=KF.1 hr
 refine Jv hd hT hi h0 hx ?_
 simp only [St.je,Nat.beq_refl,if_true,List.getElem?_map,h1,Option.map_some]
theorem acJ {α:Type} {x:Operand} {ats:Array TypeId} {t e z:Nat} {L:List α} {en:α→AV} (ha:ats[0]?=some t) (hu:P.underlying t=some (.slice e)) (hx:(mk A B).get x= .v false [.ws (.row z (L.map en))]):
 aC P cfg C nt ⟨some d,.call ⟨.builtin .len,#[x],ats⟩,ty,pos,aft,gd⟩ (mk A B)=some (mk ((d,iv L.length)::A) B):=
 oLn hd ha hu hx (fun _ _ h=>by cases h) rfl (List.length_map _)
end
end
end Go.Sim
