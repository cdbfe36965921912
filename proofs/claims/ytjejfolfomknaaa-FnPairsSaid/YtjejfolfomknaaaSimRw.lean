/- slices.Delete at a row of numbers that is given up: what it answers, and how the library's text does it. Conditions: the numbers that are deleted lie within the row, and there is at least one. -/
import Derived.Shelf.SlLaysE
import Derived.Shelf.SlicesE.Kit
import Derived.Shelf.RegionOpenPlain
import Derived.WalkKit
import Derived.Deep.LoopGhost
import Derived.Deep.RegionLaw
import Derived.Lib.Walk
import Derived.Sort.WalkB12
import Derived.Lib.SliceRun
import Derived.Lib.SlicesDelete
import Derived.Test.YtjejfolfomknaaaSimRv
namespace Go.Proofs
open Go.Shelf Go.RowKit Go.Lib Go.Sort Go.Pw
variable {P:Program} {ρ:Ren}
theorem Oq {w:World} {b off j:Nat} {zs:List Int} (hH:Holds (Value.int .i64) w b off zs.toArray) {t:Nat} {u:Value} (hu:((zs.drop j).map (Value.int .i64))[t]?=some u):w.cell? ⟨b,off+(j+t),none⟩=some u:=by
 rw [List.getElem?_map,List.getElem?_drop] at hu
 obtain ⟨z,hz,rfl⟩:=Option.map_eq_some_iff.1 hu
 obtain ⟨hlt,rfl⟩:=List.getElem?_eq_some_iff.1 hz
 have:=(hH (j+t) (by simpa using hlt)).1
 rw [this]
 simp [hlt]
set_option maxHeartbeats 4000000 in
set_option maxRecDepth 1000000 in
theorem MV (L:SlLaysE.n45 P ρ) (hz:∀w,(zeroValue (ρ.t 23)).run P w= .ok (Value.int .i64 0) w) (RQ:(P.info? (ρ.t 23)).map (·.size)=some 1) {b off cap i j:Nat} {zs:List Int} {w:World}
 (hH:Holds (Value.int .i64) w b off zs.toArray) (hmax:zs.length≤9223372036854775807) (hcap:zs.length≤cap) (hij:i<j) (hj:j≤zs.length):
 Calls P (ρ.f 45) #[.slice (some ⟨b,off,none⟩) zs.length cap,.int .i64 i,.int .i64 j] w fun e w'=>e= .returned (.slice (some ⟨b,off,none⟩) (zs.length - (j - i)) cap)∧
  ∃q,w'=putRow (Value.int .i64) (Sort.ahead w q) b off (Ea zs i j++List.replicate (j - i) 0).toArray:=by
 obtain ⟨ti,hti,hone⟩:=Option.map_eq_some_iff.1 RQ
 have mixed:=L.mixed;have t22:=L.t22;have a22:=L.a22;have z22:=L.z22;have v22:=L.v22;have t0:=L.t0;have a0:=L.a0;have z0:=L.z0;have v0:=L.v0;have t3:=L.t3;have a3:=L.a3;have z3:=L.z3;have v3:=L.v3;have t4:=L.t4;have a4:=L.a4;have z4:=L.z4;have v4:=L.v4;have a23:=L.a23;have z23:=L.z23
 let E:Int→Value:=Value.int .i64
 obtain ⟨cs,hcs⟩:∃cs,cs=(zs.drop j).map E:=⟨_,rfl⟩
 have hcl:cs.length=zs.length - j:=by rw [hcs];simp
 obtain ⟨A,hA,hrd⟩:∃A:Addr,(if cap=j then some (⟨b,off,none⟩:Addr) else some ⟨b,off+j,none⟩)=some A∧Hid (∀t u,cs[t]?=some u→w.drew.cell? (A.add t)=some u):=by
  by_cases h:cap=j
  ·refine ⟨⟨b,off,none⟩,if_pos h,fun t u hu=>?_⟩
   have:cs=[]:=List.eq_nil_of_length_eq_zero (by omega)
   rw [this] at hu;simp at hu
  ·refine ⟨⟨b,off+j,none⟩,if_neg h,fun t u hu=>?_⟩
   rw [hcs] at hu
   have:=Oq hH hu
   rw [Addr.add_lit,Nat.add_assoc];exact this
 have k1:Hid (cs.length=(zs.length - j) *1):=by rw [Nat.mul_one];exact hcl
 have k2:Hid (∀u∈cs,u.oneCell'=true):=fun u hu=>by
  rw [hcs] at hu
  obtain ⟨x,_,rfl⟩:=List.mem_map.1 hu
  rfl
 have k3:Hid (∀t,t<cs.length→(w.drew.cell? ⟨b,off+i*1+t,none⟩).isSome=true∧w.drew.frozen? ⟨b,off+i*1+t,none⟩=false):=fun t ht=>by
  have q:=hH (i+t) (by simp;omega)
  rw [Nat.mul_one,Nat.add_assoc]
  exact ⟨by show (w.cell? _).isSome=true;rw [q.1];rfl,q.2⟩
 obtain ⟨V,hV⟩:∃V,V=w.drew.setCells b (off+i*1) cs:=⟨_,rfl⟩
 have hVp:V=putRow E (Sort.ahead w 1) b off (lay zs.toArray i (zs.drop j)):=by
  rw [hV,hcs,Nat.mul_one,←putRow_setCells E (Sort.ahead w 1) b off _ zs.toArray i (by simp;omega),putRow_self E (Sort.ahead w 1) b off zs.toArray (holds_ahead E w 1 b off _ hH)]
  rfl
 have hVH:Holds E V b off (lay zs.toArray i (zs.drop j)):=by
  rw [hVp];exact holds_putRow E _ b off _ _ (holds_ahead E w 1 b off _ hH) (lay_size _ _ _)
 have aal:∀ty,(Builtin.clear_ #[ρ.t 22] ty #[.slice (some ⟨b,off+(i+(zs.length - j)),none⟩) (zs.length - (i+(zs.length - j))) (cap - (i+(zs.length - j)))]).run P V= .ok (.tuple #[]) (V.setCells b (off+(i+(zs.length - j))) (List.replicate (zs.length - (i+(zs.length - j))) (E 0))):=fun ty=>
  Lib.run_clear_slice V _ _ ty _ t22 hz rfl rfl b (off+(i+(zs.length - j))) _ _ (by omega)
   (fun t ht=>by
     have q:=(hVH (i+(zs.length - j)+t) (by rw [lay_size];simp;omega)).1
     rw [show off+(i+(zs.length - j))+t=off+(i+(zs.length - j)+t) by omega,q];rfl)
   (fun t ht=>by
     have q:=(hVH (i+(zs.length - j)+t) (by rw [lay_size];simp;omega)).2
     rw [show off+(i+(zs.length - j))+t=off+(i+(zs.length - j)+t) by omega];exact q)
 have kV:Aside (V=putRow E (Sort.ahead w 1) b off (lay zs.toArray i (zs.drop j))):=hVp
 have kW:Hid (V=w.drew.setCells b (off+i*1) cs):=hV
 have hi:i≤cap:=by omega
 have hjc:j≤cap:=by omega
 clear hV hVp hVH hH hcs hcl
 obtain ⟨_,_,FG⟩:=L.f45
 go_enter FG,SlBodyN.n45_ntmps ρ
 go_wp2_with fail
 go_region_law_o (refine step_append_room rfl (.tmp 22) (.tmp 25) (ρ.t 22) rfl (ρ.t 23) ti 1 t22 hti hone b off i cap (by simp [Act.eval,Act.put]) A (zs.length - j) (cap - j) cs (by simp [Act.eval,Act.put]) k1.out hrd.out k2.out (by omega) k3.out ?_;rw [←kW.out])
 go_wp2
 go_ret
 refine ⟨by rw [show zs.length - (j - i)=i+(zs.length - j) by omega];rfl,1,?_⟩
 have hd:=delete_arr zs.toArray i j (0:Int) (by omega) (by simpa using hj)
 have hr:zs.length - (i+(zs.length - j))=j - i:=by omega
 rw [hr,kV.out]
 have hp:=putRow_setCells E (Sort.ahead w 1) b off (List.replicate (j - i) (0:Int)) (lay zs.toArray i (zs.drop j)) (i+(zs.length - j)) (by rw [lay_size];simp;omega)
 rw [List.map_replicate] at hp
 rw [hp]
 unfold Ea
 have hd':lay (lay zs.toArray i (zs.drop j)) (i+(zs.length - j)) (List.replicate (j - i) 0)=(zs.take i++zs.drop j++List.replicate (j - i) 0).toArray:=by simpa using hd
 rw [hd']
end Go.Proofs
namespace Go.Sim
variable [Lim]
open Go.Pw
set_option linter.unusedSimpArgs false
set_option linter.unusedVariables false
def yx:List Arg→Option (Res×List Out)
 | [.mv sz es,.im _ false [.sc (.int .i64 i)],.im _ false [.sc (.int .i64 j)]]=>(intsOf es).bind fun zs=>if sz=1 then (QZ zs i j).map fun r=>([(false,[.ow 0 1 (r.map eI)])],[]) else none
 | _=>none
section
variable {P:Program} {cfg:Cfg} {f:FuncId}
omit [Lim] in
theorem jd {g t1 t2:Nat} {zs r:List Int} {i j:Int} (hx:cfg.ext g=some yx) (h:QZ zs i j=some r):FL P cfg g [.mv 1 (zs.map eI),.im t1 false [.sc (.int .i64 i)],.im t2 false [.sc (.int .i64 j)]]=some ([(false,[.ow 0 1 (r.map eI)])],[]):=by
 refine EL.2 ⟨1,?_⟩
 simp only [evF,hx,yx,Ih,Option.bind_some,if_true,h,Option.map_some]
theorem Ot (hC:∀(blk off cap i j:Nat) (zs:List Int) (w:World),Go.Sort.Holds (Value.int .i64) w blk off zs.toArray→zs.length≤9223372036854775807→zs.length≤cap→i<j→j≤zs.length→
 Calls P f #[.slice (some ⟨blk,off,none⟩) zs.length cap,.int .i64 i,.int .i64 j] w fun e w'=>e= .returned (.slice (some ⟨blk,off,none⟩) (zs.length - (j - i)) cap)∧∃n,w'=Go.Sort.putRow (Value.int .i64) (Go.Sort.ahead w n) blk off (Ea zs i j++List.replicate (j - i) 0).toArray) (hp:Plain P f):
 Plain P f∧∀args res outs,yx args=some (res,outs)→∀(w:World) (vs:List Value) (W:Wit),vs.length=args.length→BOK cfg.gb (bW w W 0)→(∀n,vs.length≤n→Rel (bW w W n) (entry args) (iq vs n) w W)→
  Calls P f vs.toArray w fun e w'=>∃v n,e= .returned v∧mM cfg f (bW w W n) args res outs w' v:=by
 refine ⟨hp,fun args res outs hx w vs W hl hB hr=>?_⟩
 unfold yx at hx
 split at hx
 ·rename_i sz es t1 i t2 j
  obtain ⟨zs,h1,h2⟩:=Option.bind_eq_some_iff.1 hx
  clear hx
  split at h2
  ·rename_i hsz
   subst hsz
   obtain ⟨r,h3,h4⟩:=Option.map_eq_some_iff.1 h2
   cases h4
   unfold QZ at h3
   split at h3
   ·rename_i hc
    cases h3
    obtain ⟨c1,c2,c3,c4⟩:=hc
    obtain rfl:=FV h1
    have hr3:=hr 3 (by rw [hl];exact Nat.le_refl _)
    obtain ⟨v,v1,v2,rfl⟩:∃v v1 v2,vs=[v,v1,v2]:=by
     match vs,hl with
     | [v,v1,v2],_=>exact ⟨v,v1,v2,rfl⟩
    have e1:v1= .int .i64 i:=by
     rcases hr3.slots 1 with ⟨q,_⟩ | ⟨_,x,q,h⟩
     ·cases q
     ·cases q
      have h:CRi w _ [AV.sc (.int .i64 i)] [v1]:=h
      cases h;rfl
    have e2:v2= .int .i64 j:=by
     rcases hr3.slots 2 with ⟨q,_⟩ | ⟨_,x,q,h⟩
     ·cases q
     ·cases q
      have h:CRi w _ [AV.sc (.int .i64 j)] [v2]:=h
      cases h;rfl
    subst e1 e2
    obtain ⟨i,rfl⟩:=Int.eq_ofNat_of_zero_le c2
    obtain ⟨j,rfl⟩:=Int.eq_ofNat_of_zero_le (show 0≤j by omega)
    have c3:i<j:=by omega
    have c4:j≤zs.length:=by omega
    let ob:Obj:={gen:=0,ctr:=0,io:=false,mem:=false,fz:=false,ag:=false,cs:=[⟨.sh,0,0,.row 1 (zs.map eI)⟩]}
    have hL:(entry [.mv 1 (zs.map eI),.im t1 false [.sc (.int .i64 i)],.im t2 false [.sc (.int .i64 j)]]).L 0=some ob:=rfl
    have hv:(W.vals 0)[0]?=some v:=by
     rcases hr3.slots 0 with ⟨q,_⟩ | ⟨_,x,q,h⟩
     ·cases q
     ·cases q
      obtain ⟨ob',h4,h5,h6⟩:=h
      rw [hL] at h4;cases h4
      exact h6 ⟨.sh,0,0,.row 1 (zs.map eI)⟩ rfl rfl
    have hcell:=(hr3.fH 0 _ hL).cells 0 _ v rfl hv
    obtain ⟨ho,hown⟩:=hcell
    rcases ho with ⟨he,_,_⟩ | ⟨b,off,cap,arr,T,fr,us,rest,rfl,hfp,hh,hf,hs,hd,hci,hle,hrm⟩
    ·have:zs=[]:=by simpa using he
     rw [this] at c4;simp at c4;omega
    ·obtain rfl:=CRi.ints zs hci
     rw [List.length_map] at hle
     have hdl:=TP (l:=zs) (Nat.le_of_lt c3) c4
     have hyl:(Ea zs i j++List.replicate (j - i) 0).length=zs.length:=by rw [List.length_append,List.length_replicate,hdl];omega
     have hcall:=hC b off cap i j zs w (Q3 hh hf hd) (by omega) hle c3 c4
     rw [List.length_map]
     obtain ⟨W',t1',_,_,_,_,_,_,t8⟩:=xY hr3 (o:=0) (s:=0) (c:=0) (ob:=ob) (x0:=⟨.sh,0,0,.row 1 (zs.map eI)⟩)
      rfl (by intro e;cases e) (by intro e;cases e) (fun b=>W.fp 0 0=some b) (fun b hb=>hown b hb) 0 (m:= .gone) (lV.none rfl) (fun v hv=>trivial)
     refine Calls.mono hcall fun e w' hw=>?_
     obtain ⟨rfl,n,rfl⟩:=hw
     obtain ⟨p1,p2,p3,ig,p4,p5,p6⟩:=MS (ys:=Ea zs i j++List.replicate (j - i) 0) hh hd hyl n #[]
     rw [Go.Sort.grow_empty] at p1 p2 p3 p4
     have hun:uU (Go.Sort.putRow (Value.int .i64) (Go.Sort.ahead w n) b off (Ea zs i j++List.replicate (j - i) 0).toArray) b:=⟨ig,T,fr,p4,by rw [p5];exact hf⟩
     have hr2:=t1'.XE p1 (t8 b hfp) p2 p3 hun
     rw [List.map_append,List.append_assoc] at p6
     refine ⟨_,3,rfl,_,_,W',[_],hr2,.inr (.one (.ow ⟨1,_,some b,rfl,.inr ⟨b,off,cap,ig,T,fr,(Ea zs i j).map vI,_,?_,rfl,p4,by rw [p5];exact hf,Om _,p6,CRi.ofInts _,?_,by rw [p5];exact hrm⟩,fun b' hb'=>by cases hb';exact t8 b hfp⟩ .nil) .nil),rfl,rfl⟩
     ·rw [List.length_map];show _=Value.slice _ (Ea zs i j).length cap;rw [hdl]
     ·rw [List.length_map];show (Ea zs i j).length≤cap;rw [hdl];omega
   ·cases h3
  ·cases h2
 ·cases hx
end
end Go.Sim
