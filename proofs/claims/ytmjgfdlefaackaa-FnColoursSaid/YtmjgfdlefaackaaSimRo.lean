/- Rows whose elements own rows: one rule for each operation. Conditions: none. -/
import Derived.Test.YtmjgfdlefaackaaSimRe
namespace Go.Sim
open Go.Pw
set_option linter.unusedSimpArgs false
set_option linter.unusedVariables false
noncomputable section
variable {P:Program} {cfg:Cfg} {C:o6} {f nt:Nat} {ops:Array Oper} {l:List Oper} {st st1 st2 X:St} {A A' A1 A2:List (Nat×SV)} {B B' B1 B2:List (Nat×Option Obj)}
variable {d:Nat} {op:Op} {dst:Option Tmp} {ty:TypeId} {pos:String} {aft:Array Edge} {gd:Option (Nat×Bool)}
theorem Qm {sz o s c n:Nat} {ob:Obj} {t:Nat} {a:AV} (hL:look none B o=some ob) (hc:ob.cs[c]?=some ⟨.dp n,s,t,a⟩):
 (mk A B).take sz (.own o s c)=some (⟨.dp 0,t,a⟩,mk A ((o,some (ob.aA c .gone))::B)):=by
 simp only [St.take,jJ hL hc rfl,Option.bind_some]
 rfl
theorem DJ {sz o s c i j n t z z2:Nat} {ob:Obj} {es es':List AV} {e:AV} (hL:look none B o=some ob) (hc:ob.cs[c]?=some ⟨.dp n,s,t,.row z es⟩) (hi:es[i]?=some e) (hj:e.cells[j]?=some (.row z2 es')):
 (mk A B).take sz (.inr o s c i j n)=some (⟨.sh,t,.row z2 es'⟩,mk A ((o,some (ob.aA c (.dd (n+1) i j)))::B)):=by
 simp only [St.take,jJ hL hc rfl,Option.bind_some,Nat.beq_refl,if_true,hi,hj]
 rfl
theorem L6 {β:Type} {sz o s c i j n t z z2:Nat} {ob:Obj} {K:List β} {em:β→AV} {u:β} {es':List AV} (hL:look none B o=some ob) (hc:ob.cs[c]?=some ⟨.dp n,s,t,.row z (K.map em)⟩) (hi:K[i]?=some u) (hj:(em u).cells[j]?=some (.row z2 es')):
 (mk A B).take sz (.inr o s c i j n)=some (⟨.sh,t,.row z2 es'⟩,mk A ((o,some (ob.aA c (.dd (n+1) i j)))::B)):=
 DJ hL hc (by rw [List.getElem?_map,hi];rfl) hj
theorem WC {ks:List (Option Nat)} {o s c n:Nat} {ob:Obj} {t:Nat} {a:AV} (hx:look .jK A d= .v false [.own o s c]) (hL:look none B o=some ob) (hc:ob.cs[c]?=some ⟨.dp n,s,t,a⟩):
 (mk A B).kX ks d=mk ((d,.v false [.im t a])::A) ((o,some (ob.aA c .imm))::B):=by
 have e:(mk A B).sl d=look .jK A d:=rfl
 simp only [St.kX,e,hx,St.wS,St.Eg,St.fix,St.view,St.freeze,jJ hL hc rfl,Option.bind_some,Option.map_some]
 rfl
theorem UX {α:Type} {t:TypeId} {x y:Operand} {zs:List RV} {ks:List (Option Nat)} {ag ag':Bool} {n o s c i off t1 t2 z z2 n2:Nat} {cs:List RV} {as:List AV} {ob:Obj} {L:List α} {en:α→AV} {v v':α} (hT:tyF P t=some (zs,ks,ag,n)) (hx:(mk A B).get x= .v false [.mpe o s c i off]) (hy:(mk A B).get y= .v ag' cs) (hn:cs.length.beq n=true)
 (hdd:(mk A B).yz o s c=true) (ht:(mk A B).dK ks cs=some ([⟨.sh,t1,.row z2 as⟩],mk A' B')) (hL:look none B' o=some ob) (hc:ob.cs[c]?=some ⟨.dd n2 i off,s,t2,.row z (L.map en)⟩) (hv:L[i]?=some v) (hs:(en v).splice off [.row z2 as]=some (en v')):
 ah P cfg C nt ⟨none,.store t x y,ty,pos,aft,gd⟩ (mk A B)=some (mk A' ((o,some {ob with cs:=ob.cs.set c ⟨.dp (n2+1),s,Nat.max t1 t2,.row z ((L.set i v').map en)⟩})::B')):=by
 unfold tyF at hT
 obtain ⟨z,h1,hT⟩:=Option.bind_eq_some_iff.1 hT
 obtain ⟨k,h2,hT⟩:=Option.map_eq_some_iff.1 hT
 cases hT
 simp only [ah,Option.isSome_none,Bool.false_eq_true,if_false,hx,SV.one?,Option.bind_some,hy,hn,if_true,h2,St.store,if_pos hdd,ht,jJ hL hc rfl,Nat.beq_refl,Bool.and_self,List.getElem?_map,hv,Option.map_some,hs,List.map_set]
 rfl
section
variable (hd:Nat.blt d nt=true)
include hd
theorem UY {x:Operand} {o s c n:Nat} {ob:Obj} {t:Nat} {a:AV} (hx:(mk A B).get x= .v false [.own o s c]) (hne:o.beq d=false) (hL:look none B o=some ob) (hc:ob.cs[c]?=some ⟨.dp n,s,t,a⟩):
 ah P cfg C nt ⟨some d,.assign x,ty,pos,aft,gd⟩ (mk A B)=some (mk ((d,.v false [.own d (dX ((o,some (ob.aA c .gone))::B) d).2 0])::A) ((d,some (gW (dX ((o,some (ob.aA c .gone))::B) d) false false [⟨.dp 0,t,a⟩]))::(o,some (ob.aA c .gone))::B)):=by
 simp only [ah,hx,hd,if_true,Option.bind_some,St.assign,hne,Bool.false_eq_true,if_false,Qm hL hc,Option.map_some,pF]
 rfl
theorem Oq {α:Type} {t:TypeId} {x i:Operand} {e sz b:Nat} {ks:List (Option Nat)} {ag:Bool} {zs:List RV} {k:IntKind} {m:OM} {t2 t3:Nat} {n:Int} {L:List α} {en:α→AV} {y:α} {o s c:Nat} {ob:Obj} (hr:rd L n=some y) (hT:jE P t=some (e,sz,ks,ag,b,zs)) (hi:(mk A B).get i= .v false [.im t3 (.sc (.int k n))])
 (hx:(mk A B).get x= .v false [.own o s c]) (hL:look none B o=some ob) (hc:ob.cs[c]?=some ⟨m,s,t2,.row sz (L.map en)⟩) (hm:m≠ .gone):
 ah P cfg C nt ⟨some d,.indexAddr t x i,ty,pos,aft,gd⟩ (mk A B)=some (mk ((d,.v false [.mpe o s c n.toNat 0])::A) B):=by
 obtain ⟨h0,h1⟩:=DF.1 hr
 refine Gm hd hT hi h0 hx ?_
 have hlt:n.toNat< (L.map en).length:=by
  rw [List.length_map]
  exact (List.getElem?_eq_some_iff.1 h1).1
 have hb:Nat.blt n.toNat (L.map en).length=true:=by
  unfold Nat.blt;exact Nat.ble_eq_true_of_le hlt
 simp only [St.fB,jJ hL hc rfl,Option.bind_some,Nat.beq_refl,hb,Bool.and_true,if_true]
theorem TM {α:Type} {t:TypeId} {x:Operand} {zs:List RV} {ks:List (Option Nat)} {ag ag':Bool} {n k:Nat} {t2 z:Nat} {L:List α} {en:α→AV} {y:α} {o s c i off:Nat} {ob:Obj} {cs:List RV} (hT:tyF P t=some (zs,ks,ag,n)) (hx:(mk A B).get x= .v false [.mpe o s c i off])
 (hL:look none B o=some ob) (hc:ob.cs[c]?=some ⟨.dp k,s,t2,.row z (L.map en)⟩) (hy:L[i]?=some y) (hb:Nat.ble (off+(if ag then n else 1)) (en y).cells.length=true) (hl:SV.fU ag (Bg o s c i k t2 off (((en y).cells.drop off).take (if ag then n else 1)))=some (.v ag' cs)):
 ah P cfg C nt ⟨some d,.load t x,ty,pos,aft,gd⟩ (mk A B)=some (mk ((d,.v ag' cs)::A) B):=by
 refine oLd hd hT hx ?_
 simp only [St.load,jJ hL hc rfl,Option.bind_some,List.getElem?_map,hy,Option.map_some,hb,if_true]
 exact hl
theorem WE {α β:Type} {x y:Operand} {t t1 e sz b ty' t2 t3 z o s c i j n:Nat} {ats:Array TypeId} {ks:List (Option Nat)} {ag:Bool} {zs:List RV} {ry:RV} {td:TypeDesc} {L M r:List α} {en:α→AV} {ob:Obj} {K:List β} {em:β→AV} {u:β} (hr:apd b L M=some r) (hb:Nat.blt 0 b=true) (hT:jE P t=some (e,sz,ks,ag,b,zs)) (ha:ats[0]?=some t) (ha1:ats[1]?=some t1) (hu:P.underlying t1=some td) (hs:(∃e2,td= .slice e2)∨td= .string)
 (hx:(mk A B).get x= .v false [.inr o s c i j n]) (hL:look none B o=some ob) (hc:ob.cs[c]?=some ⟨.dp n,s,t3,.row z (K.map em)⟩) (hi:K[i]?=some u) (hj:(em u).cells[j]?=some (.row sz (L.map en))) (hy:(mk A B).get y= .v false [ry]) (he:(mk A B).elems sz ry=some (ty',M.map en)) (hf:aY ks ty' (M.map en)=t2):
 ah P cfg C nt ⟨some d,.call ⟨.builtin .append,#[x,y],ats⟩,ty,pos,aft,gd⟩ (mk A B)=some (mk ((d,.v false [.own d (dX ((o,some (ob.aA c (.dd (n+1) i j)))::B) d).2 0])::A) ((d,some (gW (dX ((o,some (ob.aA c (.dd (n+1) i j)))::B) d) false false [⟨.sh,Nat.max t3 t2,.row sz (r.map en)⟩]))::(o,some (ob.aA c (.dd (n+1) i j)))::B)):=by
 obtain ⟨h1,rfl⟩:=Gs.1 hr
 refine KC hd hT ha ha1 hu hs hx hy ?_
 have hroom:room ((L.map en).length+(M.map en).length) b=true:=by
  unfold room
  rw [List.length_map,List.length_map,Bool.and_eq_true]
  exact ⟨hb,Nat.ble_eq_true_of_le h1⟩
 have hi':(K.map em)[i]?=some (em u):=by rw [List.getElem?_map,hi];rfl
 simp only [St.append,St.rM,he,Option.bind_some,DJ hL hc hi' hj,Nat.beq_refl,if_true,hroom,hf,pF,←List.map_append]
 rfl
theorem UZ {t:TypeId} {x i:Operand} {e n:Nat} {k k2:IntKind} {t3:Nat} {m y:Int} {L:List Int} {cs:List RV} {td:TypeDesc} (hr:rd L m=some y) (hu:P.underlying t=some (.array n e)) (hz:(P.info? e).map (·.size)=some 1) (hue:P.underlying e=some td) (hag:bC P e=false)
 (hi:(mk A B).get i= .v false [.im t3 (.sc (.int k2 m))]) (hx:(mk A B).get x= .v true cs) (hcs:cs=L.map fun y=> .im 0 (.sc (.int k y))) (hln:L.length=n):
 ah P cfg C nt ⟨some d,.index t x i,ty,pos,aft,gd⟩ (mk A B)=some (mk ((d,.v false [.im 0 (.sc (.int k y))])::A) B):=by
 obtain ⟨h0,h1⟩:=DF.1 hr
 obtain ⟨inf,hi1,hi2⟩:=Option.map_eq_some_iff.1 hz
 have hn:oW m=some m.toNat:=by unfold oW;rw [if_pos h0]
 have hc:cs[m.toNat]?=some (.im 0 (.sc (.int k y))):=by rw [hcs,List.getElem?_map,h1];rfl
 have hl:Nat.blt m.toNat n=true:=by
  have:=(List.getElem?_eq_some_iff.1 h1).1
  unfold Nat.blt
  exact Nat.ble_eq_true_of_le (by omega)
 simp only [ah,hi,SV.int?,Option.bind_some,hn,hu,hx,I4,hi1,hl,hag,hi2,Bool.not_false,Bool.and_self,Nat.beq_refl,if_true,hue,hc,hd]
 rfl
theorem oCI {β:Type} {x:Operand} {o s c i j n g z sz ta:Nat} {K:List β} {em:β→AV} {u u':β} {es es2:List AV} {ob:Obj} (hx:(mk A B).get x= .v false [.inr o s c i j n]) (hL:look none B o=some ob) (hc:ob.cs[c]?=some ⟨.dp n,s,0,.row z (K.map em)⟩) (hi:K[i]?=some u) (hj:(em u).cells[j]?=some (.row sz es))
 (hp:cfg.par g 0= .row) (hF:C g [.ow sz es]=some ([],[.ow sz es2])) (hs:(em u).splice j [.row sz es2]=some (em u')) (hod:o.beq d=false):
 ah P cfg C nt ⟨some d,.call ⟨.value (.func g),#[x],#[ta]⟩,ty,pos,aft,gd⟩ (mk A B)=some (mk ((d,.v false [.jK])::A) ((o,some {ob with cs:=ob.cs.set c ⟨.dp (n+2),s,0,.row z ((K.set i u').map em)⟩})::
  (d,some ((gW (dX ((o,some (ob.aA c (.dd (n+1) i j)))::B) d) false false [⟨.sh,0,.row sz es2⟩]).aA 0 .gone))::(d,some (gW (dX ((o,some (ob.aA c (.dd (n+1) i j)))::B) d) false false [⟨.sh,0,.row sz es2⟩]))::
  (d,some (gW (dX ((o,some (ob.aA c (.dd (n+1) i j)))::B) d) false false [⟨.sh,0,.row sz es⟩]))::(o,some (ob.aA c (.dd (n+1) i j)))::B)):=by
 have hi':(K.map em)[i]?=some (em u):=by rw [List.getElem?_map,hi];rfl
 have hcl:c<ob.cs.length:=by
  rcases Nat.lt_or_ge c ob.cs.length with h' | h'
  ·exact h'
  ·rw [List.getElem?_eq_none h'] at hc;cases hc
 have hdd:(ob.aA c (.dd (n+1) i j)).cs[c]?=some ⟨.dd (n+1) i j,s,0,.row z (K.map em)⟩:=by
  simp only [Obj.aA,List.getElem?_modify,hc]
  simp
 have h0:ah P cfg C nt ⟨some d,.call ⟨.value (.func g),#[x],#[ta]⟩,ty,pos,aft,gd⟩ (mk A B)=(mk A B).call P cfg C (some d) g [(ta,.v false [.inr o s c i j n])]:=by
  have hg:(mk A B).get (.func g)= .fn g []:=rfl
  simp only [ah,hg,Bi,hd,List.map_cons,List.map_nil,hx]
  rfl
 rw [h0]
 unfold St.call
 rw [EZ hp,Option.none_or]
 simp only [hp]
 unfold St.lS
 rw [DJ (sz:=0) hL hc hi' hj]
 simp only [Option.bind_some,pF]
 generalize hgs:dX ((o,some (ob.aA c (.dd (n+1) i j)))::B) d=gs
 have hdo:d.beq o=false:=by
  cases h:d.beq o with
  | false=>rfl
  | true=>rw [Nat.eq_of_beq_eq_true h,Nat.beq_refl] at hod;cases hod
 have hLd:look none ((d,some (gW gs false false [⟨.sh,0,.row sz es⟩]))::(o,some (ob.aA c (.dd (n+1) i j)))::B) d=some (gW gs false false [⟨.sh,0,.row sz es⟩]):=by
  simp only [look,Nat.beq_refl,cond_true]
 have hcd:(gW gs false false [⟨.sh,0,.row sz es⟩]).cs[0]?=some ⟨.sh,gs.2,0,.row sz es⟩:=rfl
 have hcall:(mk A ((d,some (gW gs false false [⟨.sh,0,.row sz es⟩]))::(o,some (ob.aA c (.dd (n+1) i j)))::B)).mM P cfg C none g [(0,.v false [.own d gs.2 0])]=
  some (mk A ((d,some (gW gs false false [⟨.sh,0,.row sz es2⟩]))::(d,some (gW gs false false [⟨.sh,0,.row sz es⟩]))::(o,some (ob.aA c (.dd (n+1) i j)))::B)):=by
  unfold St.mM
  simp only [St.lQ,St.yC,hp,Option.bind_some,Option.map_some,St.lg,St.see,jJ hLd hcd rfl,List.append_nil,List.nil_append]
  have hov:(overlap [] (List.map (fun x:Nat×Nat×Nat=>x.1) [(d,gs.2,0)])||wX (List.map (fun x:Nat×Nat×Nat=>x.1) [(d,gs.2,0)]))=false:=rfl
  simp only [hov,Bool.false_eq_true,if_false,hF,Option.bind_some,Cfg.unf,Cfg.fresh,Bool.false_and]
  simp only [iy,jJ hLd hcd rfl,Option.bind_some,AV.JY,Nat.beq_refl,if_true,St.unpack]
  rfl
 rw [hcall]
 simp only [Option.bind_some]
 have WG:look none ((d,some (gW gs false false [⟨.sh,0,.row sz es2⟩]))::(d,some (gW gs false false [⟨.sh,0,.row sz es⟩]))::(o,some (ob.aA c (.dd (n+1) i j)))::B) d=some (gW gs false false [⟨.sh,0,.row sz es2⟩]):=by
  simp only [look,Nat.beq_refl,cond_true]
 have hcd2:(gW gs false false [⟨.sh,0,.row sz es2⟩]).cs[0]?=some ⟨.sh,gs.2,0,.row sz es2⟩:=rfl
 rw [kL WG hcd2]
 have hLo:look none ((d,some ((gW gs false false [⟨.sh,0,.row sz es2⟩]).aA 0 .gone))::(d,some (gW gs false false [⟨.sh,0,.row sz es2⟩]))::(d,some (gW gs false false [⟨.sh,0,.row sz es⟩]))::(o,some (ob.aA c (.dd (n+1) i j)))::B) o=some (ob.aA c (.dd (n+1) i j)):=by
  simp only [look,hod,cond_false,Nat.beq_refl,cond_true]
 simp only [Option.bind_some,jJ hLo hdd rfl,Nat.beq_refl,hod,Bool.not_false,Bool.and_self,if_true,hi',hs,Option.map_some,List.map_set]
 have hset:({(ob.aA c (.dd (n+1) i j)) with cs:=(ob.aA c (.dd (n+1) i j)).cs.set c ⟨.dp (n+2),s,Nat.max 0 0,.row z ((K.map em).set i (em u'))⟩}:Obj)={ob with cs:=ob.cs.set c ⟨.dp (n+2),s,0,.row z ((K.map em).set i (em u'))⟩}:=by
  simp only [Obj.aA]
  congr 1
  apply List.ext_getElem?
  intro q
  by_cases e:c=q
  ·subst e
   rw [List.getElem?_set_self (by rw [List.length_modify];exact hcl),List.getElem?_set_self hcl]
   rfl
  ·rw [List.getElem?_set_ne e,List.getElem?_set_ne e,List.getElem?_modify]
   simp [e]
 rw [hset]
 rfl
end
end
end Go.Sim
