/- The plain law of FnRooms. Conditions: none. -/
import Derived.Test.YthdegfgajfgggaaDoorTrmT
import Derived.Test.YthdegfgajfgggaaDoorSimPe
import Derived.Test.YthdegfgajfgggaaDoorSimPn
namespace Go.Pw
open Go.Sim (min2 max2)
set_option linter.unusedVariables false
set_option linter.unusedSimpArgs false
def Rm (r:S_Room):Prop:=(1≤r.Width∧r.Width≤20000)∧(1≤r.Length∧r.Length≤20000)
def Sk (k:S_Stock):Prop:=(10≤k.Board∧k.Board≤5000)∧(10≤k.Wide∧k.Wide≤1000)∧(1≤k.Least∧k.Least≤k.Board)∧(0≤k.Stagger∧k.Stagger≤w64 (k.Board.tdiv 2))
theorem within_eq (n a b:Int):impl_within n a b=some (decide (a≤n∧n≤b)):=by
 unfold impl_within
 rw [Bool.decide_and]
theorem in_eq (n a b:Int):spec_l00In n a b=some (decide (a≤n∧n≤b)):=by
 unfold spec_l00In
 rw [Bool.decide_and]
open Classical in
theorem gf_impl (r:S_Room) (k:S_Stock):impl_roomCode r k=some (if Rm r∧Sk k then 0 else 1):=by
 unfold impl_roomCode impl_ValidRoom impl_ValidStock Rm Sk
 simp only [within_eq,Option.bind_some,decide_eq_true_eq]
 have e2:dv .i64 k.Board 2=some (w64 (k.Board.tdiv 2)):=by unfold dv;rw [if_neg (by decide)]
 rw [e2]
 by_cases c1:1≤r.Width∧r.Width≤20000<;>by_cases c2:1≤r.Length∧r.Length≤20000<;>by_cases c3:10≤k.Board∧k.Board≤5000<;>by_cases c4:10≤k.Wide∧k.Wide≤1000<;>by_cases c5:1≤k.Least∧k.Least≤k.Board<;>by_cases c6:0≤k.Stagger∧k.Stagger≤w64 (k.Board.tdiv 2)<;>simp [c1,c2,c3,c4,c5,c6]
theorem apd1 {l:List Int} {x:Int} (h:l.length≤1000000):apd 8 l [x]=some (l++[x]):=by
 unfold apd
 rw [if_pos (by simp;omega)]
theorem gf_q {w B:Int} (hw:1≤w) (hB:1≤B):∃q:Nat,(q:Int) *B<w∧w≤(q:Int) *B+B∧(q:Int)≤w:=by
 have h0:0≤(w - 1) / B:=Int.ediv_nonneg (by omega) (by omega)
 refine ⟨((w - 1) / B).toNat,?_⟩
 rw [Int.toNat_of_nonneg h0]
 have h1:(w - 1) / B*B≤w - 1:=Int.ediv_mul_le _ (by omega)
 have h2:w - 1< ((w - 1) / B+1) *B:=Int.lt_ediv_add_one_mul_self _ (by omega)
 have h3:(w - 1) / B≤w - 1:=Int.ediv_le_self _ (by omega)
 rw [Int.add_mul,Int.one_mul] at h2
 omega
theorem mul_mono {i q:Nat} {B:Int} (hB:0≤B) (h:i≤q):(i:Int) *B≤(q:Int) *B:=Int.mul_le_mul_of_nonneg_right (by omega) hB
def jts (f B:Int) (n:Nat):List Int:=(List.range n).map fun j:Nat=>f+(j:Int) *B
theorem jts_succ (f B:Int) (n:Nat):jts f B (n+1)=jts f B n++[f+(n:Int) *B]:=by
 unfold jts
 rw [List.range_succ,List.map_append]
 rfl
theorem jts_length (f B:Int) (n:Nat):(jts f B n).length=n:=by simp [jts]
theorem gf_rowL {k:S_Stock} {r:S_Room} {f:Int} {q:Nat} (hB:1≤k.Board) (hB2:k.Board≤5000) (hf:1≤f) (hW:r.Width≤20000) (h1:(q:Int) *k.Board<r.Width - f) (h2:r.Width - f≤(q:Int) *k.Board+k.Board) (hq:(q:Int)≤r.Width - f):
 loopO (impl_makeRow_l7 k r) (f,[f],[],0)=some (f::(List.replicate q k.Board++[r.Width - f - (q:Int) *k.Board]),jts f k.Board (q+1),r.Width - f - (q:Int) *k.Board):=by
 have:=loopO_for (fun i:Nat=>if i≤q then (f+(i:Int) *k.Board,f::List.replicate i k.Board,jts f k.Board i,if i=0 then (0:Int) else k.Board) else (r.Width,f::(List.replicate q k.Board++[r.Width - f - (q:Int) *k.Board]),jts f k.Board (q+1),r.Width - f - (q:Int) *k.Board))
  (q+1) (f:=impl_makeRow_l7 k r) (r:=(f::(List.replicate q k.Board++[r.Width - f - (q:Int) *k.Board]),jts f k.Board (q+1),r.Width - f - (q:Int) *k.Board)) (fun i hi=>?_) ?_
 ·simpa [jts] using this
 ·have hiq:i≤q:=by omega
  rw [if_pos hiq]
  unfold impl_makeRow_l7
  simp only
  have m0:=mul_mono (B:=k.Board) (by omega) hiq
  have m3:0≤(i:Int) *k.Board:=Int.mul_nonneg (by omega) (by omega)
  have m2:((i+1:Nat):Int) *k.Board=(i:Int) *k.Board+k.Board:=by rw [Int.natCast_add,Int.add_mul];simp
  have e1:w64 (r.Width - (f+(i:Int) *k.Board))=r.Width - f - (i:Int) *k.Board:=by rw [w64_id (by omega) (by omega)];omega
  rw [if_pos (by omega),apd1 (by rw [jts_length];omega),Option.bind_some,apd1 (by simp;omega),Option.bind_some,e1,←jts_succ]
  by_cases c:i<q
  ·have m1:=mul_mono (B:=k.Board) (by omega) (show i+1≤q by omega)
   have e2:Go.Sim.min2 (r.Width - f - (i:Int) *k.Board) k.Board=k.Board:=by unfold Go.Sim.min2;split<;>omega
   rw [e2,if_pos (by omega),w64_id (by omega) (by omega),m2,if_neg (by omega),List.cons_append,←List.replicate_succ']
   congr 3
   omega
  ·obtain rfl:i=q:=by omega
   have e2:Go.Sim.min2 (r.Width - f - (i:Int) *k.Board) k.Board=r.Width - f - (i:Int) *k.Board:=by unfold Go.Sim.min2;split<;>omega
   rw [e2,if_neg (by omega),w64_id (by omega) (by omega),List.cons_append]
   congr 3
   omega
 ·rw [if_neg (by omega)]
  unfold impl_makeRow_l7
  simp
def Sr (c:List Int) (n:Int) (s:S_l00Src):Prop:=s.code=c∧0≤s.at_∧s.at_≤n
theorem Sr.mono {c:List Int} {n m:Int} {s:S_l00Src} (h:Sr c n s) (hm:n≤m):Sr c m s:=⟨h.1,h.2.1,by have:=h.2.2;omega⟩
theorem and255 (x:Int):0≤bit_and .u64 x 255∧bit_and .u64 x 255≤255:=by
 unfold bit_and
 have h1:(BitVec.ofInt IntKind.u64.bits x &&& BitVec.ofInt IntKind.u64.bits 255).toNat≤255:=by
  rw [BitVec.toNat_and]
  exact Nat.le_trans Nat.and_le_right (by decide)
 generalize (BitVec.ofInt IntKind.u64.bits x &&& BitVec.ofInt IntKind.u64.bits 255).toNat=k at h1
 have e:IntKind.wrap .u64 (k:Int)=(k:Int):=by
  simp only [IntKind.wrap,IntKind.signed,IntKind.bits]
  simp
  omega
 rw [e]
 omega
theorem next_ok {c:List Int} (hc:∀x∈c,0≤x∧x≤255) {n:Int} (hn:n≤1000000000) {s:S_l00Src} (h:Sr c n s):∃v s',spec_l00Src_next s=some (v,s')∧0≤v∧v≤255∧Sr c (n+1) s':=by
 obtain ⟨h1,h2,h3⟩:=h
 have e1:w64 (s.at_+1)=s.at_+1:=w64_id (by omega) (by omega)
 have k4:∀b,0≤b→b≤255→∃v s',spec_l00Src_next_k4 s b=some (v,s')∧0≤v∧v≤255∧Sr c (n+1) s':=by
  intro b b1 b2
  unfold spec_l00Src_next_k4 shr
  rw [e1]
  by_cases q:s.at_+1≤(s.code.length:Int)
  ·rw [if_pos q]
   exact ⟨_,_,rfl,b1,b2,h1,by show 0≤s.at_+1;omega,by show s.at_+1≤n+1;omega⟩
  ·rw [if_neg q,if_neg (by decide)]
   simp only [Option.bind_some]
   have a:=and255 (Int.fdiv (IntKind.wrap .u64 ((IntKind.wrap .u64 ((IntKind.wrap .u64 (s.seed*6364136223846793005))+(IntKind.wrap .u64 b)))+1442695040888963407)) (2 ^ min (Int.toNat 40) IntKind.u64.bits))
   refine ⟨_,_,rfl,?_,?_,h1,by show 0≤s.at_+1;omega,by show s.at_+1≤n+1;omega⟩
   ·rw [w64_id (by omega) (by omega)];exact a.1
   ·rw [w64_id (by omega) (by omega)];exact a.2
 unfold spec_l00Src_next
 by_cases q:s.at_< (s.code.length:Int)
 ·rw [if_pos q]
  obtain ⟨i,hi⟩:∃i:Nat,s.at_=(i:Int):=⟨s.at_.toNat,by omega⟩
  have hlt:i<s.code.length:=by omega
  rw [hi,rd_lt hlt,Option.bind_some]
  have hb:=hc s.code[i] (by rw [←h1];exact List.getElem_mem hlt)
  rw [w64_id (by omega) (by omega)]
  exact k4 _ hb.1 hb.2
 ·rw [if_neg q]
  exact k4 0 (by omega) (by omega)
theorem pick_ok {c:List Int} (hc:∀x∈c,0≤x∧x≤255) {n:Int} (hn:n≤999999999) {s:S_l00Src} (h:Sr c n s) (m:Int):∃v s',spec_l00Src_pick s m=some (v,s')∧0≤v∧(1≤m→v<m)∧Sr c (n+2) s':=by
 unfold spec_l00Src_pick
 by_cases q:m≤1
 ·rw [if_pos q]
  exact ⟨_,_,rfl,by omega,by omega,h.mono (by omega)⟩
 ·rw [if_neg q]
  obtain ⟨v,s1,e1,v1,v2,h1⟩:=next_ok hc (by omega) h
  have k6:∀(x:Int) (t:S_l00Src),0≤x→Sr c (n+2) t→∃v s',spec_l00Src_pick_k6 m x t.code t.at_ t.seed=some (v,s')∧0≤v∧(1≤m→v<m)∧Sr c (n+2) s':=by
   intro x t hx ht
   unfold spec_l00Src_pick_k6 md
   rw [if_neg (by omega),Option.bind_some]
   have e:x.tmod m=x % m:=Int.tmod_eq_emod_of_nonneg hx
   refine ⟨_,_,rfl,?_,fun _=>?_,ht⟩
   ·rw [e];exact Int.emod_nonneg _ (by omega)
   ·rw [e];exact Int.emod_lt_of_pos _ (by omega)
  simp only [e1,Option.bind_some]
  by_cases q2:m>200
  ·rw [if_pos q2]
   obtain ⟨w,s2,e2,w1,w2,h2⟩:=next_ok hc (n:=n+1) (by omega) h1
   simp only [e2,Option.bind_some]
   have a1:w64 (v*256)=v*256:=w64_id (by omega) (by omega)
   have a2:w64 (v*256+w)=v*256+w:=w64_id (by omega) (by omega)
   rw [a1,a2]
   exact k6 _ s2 (by omega) (h2.mono (by omega))
  ·rw [if_neg q2]
   exact k6 v s1 v1 (h1.mono (by omega))
theorem one_ok {c:List Int} (hc:∀x∈c,0≤x∧x≤255) {n:Int} (hn:n≤999999999) {s:S_l00Src} (h:Sr c n s) (m:Int):∃v s',spec_l00Src_one s m=some (v,s')∧Sr c (n+2) s':=by
 obtain ⟨v,s',e,_,_,h'⟩:=pick_ok hc hn h m
 unfold spec_l00Src_one
 rw [e]
 exact ⟨_,_,rfl,h'⟩
theorem among_ok {c:List Int} (hc:∀x∈c,0≤x∧x≤255) {n:Int} (hn:n≤999999999) {s:S_l00Src} (h:Sr c n s) (l:List Int) (hl:1≤l.length):∃v s',spec_l00Src_among s l=some (v,s')∧v∈l∧Sr c (n+2) s':=by
 obtain ⟨v,s',e,v1,v2,h'⟩:=pick_ok hc hn h (l.length:Int)
 have v3:=v2 (by omega)
 obtain ⟨i,hi⟩:∃i:Nat,v=(i:Int):=⟨v.toNat,by omega⟩
 subst hi
 have hlt:i<l.length:=by omega
 unfold spec_l00Src_among
 rw [e]
 simp only [Option.bind_some,rd_lt hlt]
 exact ⟨_,_,rfl,List.getElem_mem hlt,h'⟩
theorem from_ok (c:List Int):∃s,spec_l00From c=some s∧Sr c 0 s:=⟨_,rfl,rfl,by show (0:Int)≤0;omega,by show (0:Int)≤0;omega⟩
theorem pick_ev {c:List Int} (hc:∀x∈c,0≤x∧x≤255) {n:Int} {s:S_l00Src} (h:Sr c n s) (hn:n≤999999999) (m:Int):Ev (spec_l00Src_pick s m) (fun r=>0≤r.1∧(1≤m→r.1<m)∧Sr c (n+2) r.2):=by
 obtain ⟨v,s',e,h1,h2,h3⟩:=pick_ok hc (by omega) h m
 exact ⟨_,e,h1,h2,h3⟩
theorem one_ev {c:List Int} (hc:∀x∈c,0≤x∧x≤255) {n:Int} {s:S_l00Src} (h:Sr c n s) (hn:n≤999999999) (m:Int):Ev (spec_l00Src_one s m) (fun r=>Sr c (n+2) r.2):=by
 obtain ⟨v,s',e,h3⟩:=one_ok hc (by omega) h m
 exact ⟨_,e,h3⟩
theorem among_ev {c:List Int} (hc:∀x∈c,0≤x∧x≤255) {n:Int} {s:S_l00Src} (h:Sr c n s) (hn:n≤999999999) (l:List Int) (hl:1≤l.length):Ev (spec_l00Src_among s l) (fun r=>r.1∈l∧Sr c (n+2) r.2):=by
 obtain ⟨v,s',e,h1,h3⟩:=among_ok hc (by omega) h l hl
 exact ⟨_,e,h1,h3⟩
theorem from_ev (c:List Int):Ev (spec_l00From c) (fun s=>Sr c 0 s):=by
 obtain ⟨s,h1,h2⟩:=from_ok c
 exact ⟨s,h1,h2⟩
theorem room_ev {c:List Int} (hc:∀x∈c,0≤x∧x≤255) {n:Int} {s:S_l00Src} (h:Sr c n s) (hn:n≤990000000):Ev (spec_l30DrawRoom s) (fun r=>Sr c (n+10) r.2):=by
 unfold spec_l30DrawRoom
 refine Ev.bind (pick_ev hc h (by omega) _) fun r1 h1=>?_
 refine Ev.bind (pick_ev hc h1.2.2 (by omega) _) fun r2 h2=>?_
 refine Ev.bind (pick_ev hc h2.2.2 (by omega) _) fun r3 h3=>?_
 have k:∀(t:S_l00Src) a b,Sr c (n+10) t→Ev (spec_l30DrawRoom_k8 t.code t.at_ t.seed a b) (fun r=>Sr c (n+10) r.2):=fun t a b ht=>Ev.ret ht
 refine Ev.ite (fun _=>Ev.bind (among_ev hc h3.2.2 (by omega) _ (by decide)) fun r h=>k _ _ _ (h.2.mono (by omega))) fun _=>?_
 refine Ev.ite (fun _=>Ev.bind (among_ev hc h3.2.2 (by omega) _ (by decide)) fun r h=>k _ _ _ (h.2.mono (by omega))) fun _=>?_
 exact k _ _ _ (h3.2.2.mono (by omega))
theorem half_ev (x:Int):Ev (dv .i64 x 2) (fun _=>True):=by
 unfold dv
 rw [if_neg (by decide)]
 exact ⟨_,rfl,trivial⟩
theorem stock_ev {c:List Int} (hc:∀x∈c,0≤x∧x≤255) {n:Int} {s:S_l00Src} (h:Sr c n s) (hn:n≤990000000):Ev (spec_l30DrawStock s) (fun r=>Sr c (n+20) r.2):=by
 unfold spec_l30DrawStock
 refine Ev.bind (pick_ev hc h (by omega) _) fun r1 h1=>?_
 refine Ev.bind (pick_ev hc h1.2.2 (by omega) _) fun r2 h2=>?_
 refine Ev.bind (pick_ev hc h2.2.2 (by omega) _) fun r3 h3=>?_
 refine Ev.bind (half_ev _) fun z _=>?_
 refine Ev.bind (among_ev hc h3.2.2 (by omega) _ (by simp)) fun r4 h4=>?_
 refine Ev.bind (pick_ev hc h4.2 (by omega) _) fun r5 h5=>?_
 have k:∀(t:S_l00Src) a b d e,Sr c (n+20) t→Ev (spec_l30DrawStock_k13 t.code t.at_ t.seed a b d e) (fun r=>Sr c (n+20) r.2):=fun t a b d e ht=>Ev.ret ht
 refine Ev.ite (fun _=>Ev.bind (among_ev hc h5.2.2 (by omega) _ (by decide)) fun r h=>k _ _ _ _ _ (h.2.mono (by omega))) fun _=>?_
 refine Ev.ite (fun _=>Ev.bind (among_ev hc h5.2.2 (by omega) _ (by decide)) fun r h=>k _ _ _ _ _ (h.2.mono (by omega))) fun _=>?_
 refine Ev.ite (fun _=>Ev.bind (among_ev hc h5.2.2 (by omega) _ (by simp)) fun r h=>k _ _ _ _ _ (h.2.mono (by omega))) fun _=>?_
 refine Ev.ite (fun _=>Ev.bind (half_ev _) fun z _=>Ev.bind (among_ev hc h5.2.2 (by omega) _ (by simp)) fun r h=>k _ _ _ _ _ (h.2.mono (by omega))) fun _=>?_
 exact k _ _ _ _ _ (h5.2.2.mono (by omega))
theorem max_some (a b:Int):∃v,spec_l00Max a b=some v:=by
 unfold spec_l00Max
 split<;>exact ⟨_,rfl⟩
theorem first_ev {c:List Int} (hc:∀x∈c,0≤x∧x≤255) {n:Int} {s:S_l00Src} (h:Sr c n s) (hn:n≤990000000) (k:S_Stock):Ev (spec_l30DrawFirst s k) (fun r=>Sr c (n+10) r.2):=by
 unfold spec_l30DrawFirst
 refine Ev.bind (one_ev hc h (by omega) _) fun r1 h1=>?_
 refine Ev.ite (fun _=>Ev.bind (among_ev hc h1 (by omega) _ (by simp)) fun r h=>Ev.ret (h.2.mono (by omega))) fun _=>?_
 obtain ⟨v,hv⟩:=max_some 1 k.Board
 refine Ev.bind (Ev.eq hv) fun _ _=>?_
 refine Ev.bind (pick_ev hc h1 (by omega) _) fun r2 h2=>?_
 exact Ev.ret (h2.2.2.mono (by omega))
section
variable {r:S_Room} {k:S_Stock}
theorem stag_ok {a b:S_row} (ha:a.joints.length≤20001) (hb:b.joints.length≤20001):∃v,impl_staggered a b k=some v:=by
 have:Ev (loopO (impl_staggered_l2 a b k) (0,0)) (fun _=>True):=by
  refine Ev.loop (fun s=>0≤s.1∧s.1≤20001∧0≤s.2∧s.2≤20001) (fun s=>(40010 - s.1 - s.2).toNat) ?_ ⟨by omega,by omega,by omega,by omega⟩
  rintro ⟨i,n⟩ ⟨i0,i1,n0,n1⟩
  unfold impl_staggered_l2 impl_absolute
  simp only at i0 i1 n0 n1 ⊢
  refine Ev.ite (fun hc=>?_) fun _=>Ev.ret trivial
  refine Ev.bind (Ev.rd i0 hc.1) fun x _=>?_
  refine Ev.bind (Ev.rd n0 hc.2) fun y _=>?_
  refine Ev.bind (Ev.ret (Q:=fun _=>True) trivial) fun z _=>?_
  refine Ev.ite (fun _=>Ev.ret trivial) fun _=>?_
  refine Ev.bind (Ev.rd i0 hc.1) fun x _=>?_
  refine Ev.bind (Ev.rd n0 hc.2) fun y _=>?_
  rw [w64_id (n:=i+1) (by omega) (by omega),w64_id (n:=n+1) (by omega) (by omega)]
  exact Ev.ite (fun _=>Ev.ret ⟨⟨by simp only;omega,by simp only;omega,n0,n1⟩,by simp only;omega⟩) fun _=>Ev.ret ⟨⟨i0,i1,by simp only;omega,by simp only;omega⟩,by simp only;omega⟩
 obtain ⟨o,ho,_⟩:=this
 unfold impl_staggered
 rw [ho]
 cases o<;>exact ⟨_,rfl⟩
end
open Go.Lib (decDigits itoa)
theorem dg_toNat {d:Nat} (h:d<10):((UInt8.ofNat (48+d)).toNat:Int)=48+(d:Int):=by
 have:(UInt8.ofNat (48+d)).toNat=48+d:=by
  rw [UInt8.toNat_ofNat']
  exact Nat.mod_eq_of_lt (by omega)
 omega
theorem dd_len:∀(k u:Nat),u<10 ^ (k+1)→(decDigits u).length≤k+1:=by
 intro k
 induction k with
 | zero=>
  intro u h
  rw [decDigits,dif_pos (by simpa using h)]
  exact Nat.le_refl _
 | succ k ih=>
  intro u h
  by_cases c:u<10
  ·rw [decDigits,dif_pos c]
   simp
  ·rw [decDigits,dif_neg c,List.length_append,List.length_singleton]
   have:u / 10<10 ^ (k+1):=by
    rw [Nat.div_lt_iff_lt_mul (by omega)]
    rw [Nat.pow_succ] at h
    exact h
   have:=ih _ this
   omega
theorem dcm_size {n:Int} (h0:0≤n) (h1:n≤9223372036854775807):(dcm n).size≤19:=by
 have hu:n.toNat<10 ^ (18+1):=by
  have:(10:Nat) ^ (18+1)=10000000000000000000:=by decide
  rw [this]
  omega
 have:=dd_len 18 _ hu
 unfold dcm itoa
 rw [if_neg (by omega)]
 simpa [ByteArray.size] using this
theorem fmt_eq {n:Int} (h0:-9223372036854775808≤n) (h1:n≤9223372036854775807):fmtI n=some (dcm n):=by
 unfold fmtI
 rw [if_pos ⟨h0,h1⟩]
def isDig (b:UInt8):Bool:=decide (48≤b.toNat∧b.toNat≤57)
def valN (L:List UInt8):Nat:=L.foldl (fun a b=>10*a+(b.toNat - 48)) 0
theorem valN_snoc (L:List UInt8) (b:UInt8):valN (L++[b])=10*valN L+(b.toNat - 48):=by
 unfold valN
 rw [List.foldl_append]
 rfl
theorem isDig_iff {b:UInt8}:isDig b=true↔48≤b.toNat∧b.toNat≤57:=by
 unfold isDig
 exact decide_eq_true_iff
theorem valN_lt':∀R:List UInt8,(∀b∈R,isDig b=true)→valN R.reverse<10 ^ R.length:=by
 intro R
 induction R with
 | nil=>intro _;exact Nat.one_pos
 | cons b R ih=>
  intro h
  have h1:=ih fun x hx=>h x (List.mem_cons_of_mem _ hx)
  have h2:=isDig_iff.1 (h b List.mem_cons_self)
  rw [List.reverse_cons,valN_snoc,List.length_cons,Nat.pow_succ]
  omega
theorem valN_lt {L:List UInt8} (h:∀b∈L,isDig b=true):valN L<10 ^ L.length:=by
 have:=valN_lt' L.reverse fun b hb=>h b (List.mem_reverse.1 hb)
 rwa [List.reverse_reverse,List.length_reverse] at this
theorem valN_pos':∀R:List UInt8,(∀b∈R,isDig b=true)→R≠[]→R.reverse.head? ≠some 48→1≤valN R.reverse:=by
 intro R
 induction R with
 | nil=>intro _ h;exact absurd rfl h
 | cons b R ih=>
  intro h _ h3
  rw [List.reverse_cons] at h3 ⊢
  rw [valN_snoc]
  have h2:=isDig_iff.1 (h b List.mem_cons_self)
  by_cases c:R=[]
  ·subst c
   have:b≠48:=fun e=>h3 (by rw [e];rfl)
   have:b.toNat≠48:=fun e=>this (UInt8.toNat_inj.1 e)
   omega
  ·have:=ih (fun x hx=>h x (List.mem_cons_of_mem _ hx)) c (by
    intro e
    exact h3 (by rw [List.head?_append,e];rfl))
   omega
theorem dd_ne:∀u:Nat,decDigits u≠[]:=by
 intro u
 rw [decDigits]
 split<;>simp
theorem dec_val':∀R:List UInt8,(∀b∈R,isDig b=true)→R≠[]→(R.reverse.head? ≠some 48∨R.length=1)→decDigits (valN R.reverse)=R.reverse:=by
 intro R
 induction R with
 | nil=>intro _ h;exact absurd rfl h
 | cons b R ih=>
  intro h _ h3
  have h2:=isDig_iff.1 (h b List.mem_cons_self)
  have hb:UInt8.ofNat (48+(b.toNat - 48))=b:=by
   rw [show 48+(b.toNat - 48)=b.toNat by omega,UInt8.ofNat_toNat]
  rw [List.reverse_cons,valN_snoc] at*
  by_cases c:R=[]
  ·subst c
   show decDigits (10*0+(b.toNat - 48))=[b]
   rw [decDigits,dif_pos (by omega),show 48+(10*0+(b.toNat - 48))=48+(b.toNat - 48) by omega,hb]
  ·have hl:0<R.length:=List.length_pos_iff.2 c
   have h4:R.reverse.head? ≠some 48:=by
    intro e
    rcases h3 with h3 | h3
    ·exact h3 (by rw [List.head?_append,e];rfl)
    ·rw [List.length_cons] at h3;omega
   have h5:=valN_pos' R (fun x hx=>h x (List.mem_cons_of_mem _ hx)) c h4
   have h6:=ih (fun x hx=>h x (List.mem_cons_of_mem _ hx)) c (.inl h4)
   rw [decDigits,dif_neg (by omega),show (10*valN R.reverse+(b.toNat - 48)) / 10=valN R.reverse by omega,show (10*valN R.reverse+(b.toNat - 48)) % 10=b.toNat - 48 by omega,h6,hb]
theorem dd_head:∀(n u:Nat),u≤n→1≤u→(decDigits u).head? ≠some 48:=by
 intro n
 induction n with
 | zero=>intro u h0 h1;omega
 | succ n ih=>
  intro u h0 h1 e
  rw [decDigits] at e
  by_cases c:u<10
  ·rw [dif_pos c] at e
   have e:UInt8.ofNat (48+u)=48:=Option.some.inj e
   have:=dg_toNat c
   rw [e] at this
   have:((48:UInt8).toNat:Int)=48+(u:Int):=this
   have h48:(48:UInt8).toNat=48:=rfl
   omega
  ·rw [dif_neg c,List.head?_append] at e
   have:=ih (u / 10) (by omega) (by omega)
   cases hd:(decDigits (u / 10)).head? with
   | none=>exact dd_ne _ (List.head?_eq_none_iff.1 hd)
   | some x=>
    rw [hd] at e this
    exact this e
theorem dec_val {L:List UInt8} (h:∀b∈L,isDig b=true) (h0:L≠[]):decDigits (valN L)=L↔(L.head? ≠some 48∨L.length=1):=by
 constructor
 ·intro e
  by_cases c:L.head? =some 48
  ·right
   by_cases d:valN L=0
   ·rw [←e,d,decDigits,dif_pos (by omega)]
    rfl
   ·exact absurd (by rw [e];exact c) (dd_head (valN L) _ (Nat.le_refl _) (by omega))
  ·exact .inl c
 ·intro e
  have:=dec_val' L.reverse (fun b hb=>h b (List.mem_reverse.1 hb)) (by simpa using h0) (by simpa using e)
  rwa [List.reverse_reverse] at this
def okN (L:List UInt8):Bool:=decide (1≤L.length∧L.length≤18)&&L.all isDig&&(decide (L.head? ≠some 48)||decide (L.length=1))
def numOf (L:List UInt8):Int×Bool:=
 if L.head? =some 45 then (if okN L.tail=true∧L.tail.head? ≠some 48 then (-(valN L.tail:Int),true) else (0,false))
 else if okN L=true then ((valN L:Int),true) else (0,false)
theorem okN_iff {L:List UInt8}:okN L=true↔(1≤L.length∧L.length≤18)∧L.all isDig=true∧(L.head? ≠some 48∨L.length=1):=by
 unfold okN
 rw [Bool.and_eq_true,Bool.and_eq_true,Bool.or_eq_true,decide_eq_true_iff,decide_eq_true_iff,decide_eq_true_iff,and_assoc]
theorem valN_i64 {L:List UInt8} (h:L.all isDig=true) (hl:L.length≤18):(valN L:Int) <1000000000000000000:=by
 have h1:=valN_lt (List.all_eq_true.1 h)
 have h2:10 ^ L.length≤10 ^ 18:=Nat.pow_le_pow_right (by omega) hl
 have h3:(10:Nat) ^ 18=1000000000000000000:=by decide
 omega
theorem num_loop {f:Int×Int→Option ((Int×Int) ⊕ (Int ⊕ (Int×Bool)))} (D:List UInt8) (c:Nat) (hD:D.length≤18)
 (h1:∀(n:Int) (i:Nat) (hi:i<D.length),0≤n→n<100000000000000000→f (n,((c+i:Nat):Int))=if isDig D[i]=true then some (.inl (10*n+((D[i].toNat - 48:Nat):Int),((c+i+1:Nat):Int))) else some (.inr (.inr (0,false))))
 (h2:∀n,f (n,((c+D.length:Nat):Int))=some (.inr (.inl n))):loopO f (0,(c:Int))=some (if D.all isDig=true then .inl (valN D:Int) else .inr (0,false)):=by
 have key:∀m i:Nat,i+m=D.length→(D.take i).all isDig=true→loopO f ((valN (D.take i):Int),((c+i:Nat):Int))=some (if D.all isDig=true then .inl (valN D:Int) else .inr (0,false)):=by
  intro m
  induction m with
  | zero=>
   intro i hi ha
   obtain rfl:i=D.length:=by omega
   rw [List.take_length] at ha ⊢
   rw [if_pos ha]
   exact loopO_done (h2 _)
  | succ m ih=>
   intro i hi ha
   have hi':i<D.length:=by omega
   have hv:(valN (D.take i):Int) <100000000000000000:=by
    have q1:=valN_lt (List.all_eq_true.1 ha)
    have q2:10 ^ (D.take i).length≤10 ^ 17:=Nat.pow_le_pow_right (by omega) (by rw [List.length_take];omega)
    have q3:(10:Nat) ^ 17=100000000000000000:=by decide
    omega
   have h:=h1 (valN (D.take i):Int) i hi' (by omega) hv
   have et:D.take (i+1)=D.take i++[D[i]]:=List.take_succ_eq_append_getElem hi'
   cases hp:isDig D[i] with
   | false=>
    rw [hp,if_neg (by decide)] at h
    rw [loopO_done h]
    have:¬D.all isDig=true:=fun q=>by
     rw [List.all_eq_true.1 q _ (List.getElem_mem hi')] at hp
     cases hp
    rw [if_neg this]
   | true=>
    rw [hp,if_pos rfl] at h
    rw [loopO_next h]
    have:=ih (i+1) (by omega) (by rw [et,List.all_append,ha,List.all_cons,hp];rfl)
    rw [et,valN_snoc] at this
    rw [←this]
    congr 2
 have:=key D.length 0 (by omega) (by rw [List.take_zero];rfl)
 rw [List.take_zero,Nat.add_zero] at this
 exact this
theorem u8_id {n:Int} (h0:0≤n) (h1:n<256):IntKind.wrap .u8 n=n:=by
 simp only [IntKind.wrap,IntKind.signed,IntKind.bits]
 simp
 omega
theorem bt_get {s:ByteArray} {i:Nat} (h:i<s.data.toList.length):bt s (i:Int)=some ((s.data.toList[i].toNat:Int)):=by
 unfold bt
 rw [if_pos (by omega),Int.toNat_natCast,List.getElem?_eq_getElem h]
 rfl
theorem size_len (s:ByteArray):s.size=s.data.toList.length:=by rw [Array.length_toList];rfl
theorem ba_inj {a b:ByteArray} (h:a.data.toList=b.data.toList):a=b:=by
 cases a with
 | mk x=>
  cases b with
  | mk y=>
   have:x=y:=Array.toList_inj.1 h
   rw [this]
theorem slcS_get {s:ByteArray} {lo hi:Int} (h0:0≤lo) (h1:lo≤hi) (h2:hi≤s.size):∃x,slcS s lo hi=some x∧x.data.toList=(s.data.toList.take hi.toNat).drop lo.toNat:=by
 refine ⟨_,by unfold slcS;rw [if_pos ⟨h0,h1,h2⟩],?_⟩
 rw [ByteArray.data_extract,Array.toList_extract]
 simp [List.extract,List.drop_take]
def spl (c:UInt8):List UInt8→List (List UInt8)
 | []=>[[]]
 | b::r=>if b=c then []::spl c r else match spl c r with
  | []=>[[b]]
  | h::t=>(b::h)::t
def onHd (p:List UInt8):List (List UInt8)→List (List UInt8)
 | []=>[p]
 | h::t=>(p++h)::t
theorem spl_cons_ne {c b:UInt8} {r:List UInt8} (h:b≠c):spl c (b::r)=onHd [b] (spl c r):=by
 rw [spl,if_neg h]
 cases spl c r<;>rfl
theorem spl_cut (c:UInt8):∀L:List UInt8,(spl c L=[L]∧c∉L∧Go.Lib.index L [c]=-1)∨(∃a r,L=a++c::r∧c∉a∧spl c L=a::spl c r∧Go.Lib.index L [c]=(a.length:Int)):=by
 intro L
 induction L with
 | nil=>exact .inl ⟨rfl,List.not_mem_nil,rfl⟩
 | cons b L ih=>
  by_cases e:b=c
  ·subst e
   refine .inr ⟨[],L,rfl,List.not_mem_nil,by rw [spl,if_pos rfl],?_⟩
   have:List.isPrefixOf [b] (b::L)=true:=by simp [List.isPrefixOf]
   unfold Go.Lib.index
   rw [if_pos this]
   rfl
  ·have e1:List.isPrefixOf [c] (b::L)=false:=by
    have:(c==b)=false:=beq_eq_false_iff_ne.2 fun h=>e h.symm
    simp [List.isPrefixOf,this]
   rcases ih with ⟨h1,h2,h3⟩ | ⟨a,r,h1,h2,h3,h4⟩
   ·refine .inl ⟨by rw [spl_cons_ne e,h1];rfl,?_,?_⟩
    ·intro h
     rcases List.mem_cons.1 h with h | h
     ·exact e h.symm
     ·exact h2 h
    ·unfold Go.Lib.index
     rw [e1,h3]
     rfl
   ·refine .inr ⟨b::a,r,by rw [h1];rfl,?_,by rw [spl_cons_ne e,h3];rfl,?_⟩
    ·intro h
     rcases List.mem_cons.1 h with h | h
     ·exact e h.symm
     ·exact h2 h
    ·unfold Go.Lib.index
     rw [e1,h4]
     have:((a.length:Int)==-1)=false:=by rw [beq_eq_false_iff_ne];omega
     simp [this]
theorem valN_pos {L:List UInt8} (h:∀b∈L,isDig b=true) (h0:L≠[]) (h1:L.head? ≠some 48):1≤valN L:=by
 have:=valN_pos' L.reverse (fun b hb=>h b (List.mem_reverse.1 hb)) (by simpa using h0) (by rw [List.reverse_reverse];exact h1)
 rwa [List.reverse_reverse] at this
theorem minus_eq (s:ByteArray):strings_HasPrefix s (⟨#[45]⟩:ByteArray)=some (decide (s.data.toList.head? =some 45)):=by
 have hz:=size_len s
 have e1:((⟨#[45]⟩:ByteArray).size:Int)=1:=rfl
 have e2:(⟨#[45]⟩:ByteArray).toList=[45]:=by rw [ByteArray.toList_eq]
 unfold strings_HasPrefix stringslite_HasPrefix
 rw [e1,e2]
 cases hL:s.data.toList with
 | nil=>
  rw [hL] at hz
  rw [if_neg (by rw [hz];decide)]
  simp
 | cons b D=>
  rw [hL] at hz
  obtain ⟨x,x1,x2⟩:=slcS_get (s:=s) (lo:=0) (hi:=1) (by omega) (by omega) (by rw [hz,List.length_cons];omega)
  rw [if_pos (by rw [hz,List.length_cons];omega),x1,Option.bind_some,Option.bind_some,Option.bind_some,ByteArray.toList_eq,x2,hL]
  congr 1
  by_cases e:b=45<;>simp [e]
theorem readdec_eq (s:ByteArray) (hs:s.size≤1048576):impl_ReadDecimal s=some (numOf s.data.toList):=by
 have hz:=size_len s
 have lp:∀d:ByteArray,d.size≤18→loopO (impl_ReadDecimal_l8 d) (0,0)=some (if d.data.toList.all isDig=true then .inl (valN d.data.toList:Int) else .inr (0,false)):=by
  intro d hd
  have hz':=size_len d
  refine num_loop (f:=impl_ReadDecimal_l8 d) d.data.toList 0 (by omega) (fun n i hi n0 n1=>?_) (fun n=>?_)
  ·unfold impl_ReadDecimal_l8
   dsimp only
   rw [Nat.zero_add,if_pos (by omega),bt_get hi,Option.bind_some,Option.bind_some,Option.bind_some]
   by_cases hp:isDig d.data.toList[i]=true
   ·have hq:=isDig_iff.1 hp
    rw [if_pos hp,if_neg (by omega),Option.bind_some,if_neg (by rw [decide_eq_true_iff];omega),u8_id (by omega) (by omega),w64_id (n:=n*10) (by omega) (by omega),w64_id (n:=(d.data.toList[i].toNat:Int) - 48) (by omega) (by omega),w64_id (by omega) (by omega),w64_id (by omega) (by omega)]
    congr 3<;>omega
   ·rw [if_neg hp]
    have hq:¬(48≤d.data.toList[i].toNat∧d.data.toList[i].toNat≤57):=fun q=>hp (isDig_iff.2 q)
    by_cases c:(d.data.toList[i].toNat:Int) <48
    ·rw [if_pos c,Option.bind_some,if_pos rfl]
    ·rw [if_neg c,Option.bind_some,if_pos (decide_eq_true (by omega))]
  ·unfold impl_ReadDecimal_l8
   dsimp only
   rw [if_neg (by omega)]
 have k15:∀n:Int,-9223372036854775808≤n→n≤9223372036854775807→impl_ReadDecimal_k15 s n=some (if itoa n=s.data.toList then (n,true) else (0,false)):=by
  intro n h0 h1
  unfold impl_ReadDecimal_k15 impl_Decimal
  rw [fmt_eq h0 h1,Option.bind_some,Option.bind_some]
  by_cases c:itoa n=s.data.toList
  ·rw [if_neg (fun q=>q (ba_inj c)),if_pos c]
  ·rw [if_pos (fun q=>c (by rw [←q];rfl)),if_neg c]
 unfold impl_ReadDecimal
 rw [minus_eq,Option.bind_some]
 by_cases c:s.data.toList.head? =some 45
 ·rw [if_pos (decide_eq_true c)]
  have hne:s.data.toList≠[]:=fun e=>by rw [e] at c;cases c
  have hp:0<s.data.toList.length:=List.length_pos_iff.2 hne
  obtain ⟨d,d1,d2⟩:=slcS_get (s:=s) (lo:=1) (hi:=(s.size:Int)) (by omega) (by omega) (by omega)
  have d2:d.data.toList=s.data.toList.tail:=by
   rw [d2,Int.toNat_natCast,hz,List.take_length]
   exact List.drop_one
  have hdz:=size_len d
  have hs2:s.data.toList=45::d.data.toList:=by
   rw [d2]
   cases hL:s.data.toList with
   | nil=>exact absurd hL hne
   | cons b D=>
    rw [hL] at c
    cases c
    rfl
  have hl2:s.size=d.size+1:=by rw [hz,hs2,List.length_cons,hdz]
  rw [d1,Option.bind_some]
  unfold numOf
  rw [if_pos c,←d2]
  unfold impl_ReadDecimal_k4
  by_cases c1:(d.size:Int) <1∨(d.size:Int) >18
  ·rw [if_pos c1,if_neg]
   rintro ⟨h,_⟩
   have:=(okN_iff.1 h).1
   omega
  ·rw [if_neg c1,lp d (by omega),Option.bind_some]
   by_cases c2:d.data.toList.all isDig=true
   ·have hv:=valN_i64 c2 (by omega)
    have hd0:d.data.toList≠[]:=fun e=>by rw [hdz,e] at c1;simp at c1
    rw [if_pos c2]
    dsimp only
    rw [if_pos (by omega),w64_id (by omega) (by omega),k15 _ (by omega) (by omega),hs2]
    by_cases c3:valN d.data.toList=0
    ·have e0:itoa (0 - (valN d.data.toList:Int))=[48]:=by
      rw [c3]
      unfold itoa
      rw [if_neg (by omega),show (0 - ((0:Nat):Int)).toNat=0 by omega,decDigits,dif_pos (by omega)]
      rfl
     rw [e0,if_neg (by intro e;cases e),if_neg]
     rintro ⟨_,h⟩
     have:=valN_pos (List.all_eq_true.1 c2) hd0 h
     omega
    ·have e0:itoa (0 - (valN d.data.toList:Int))=45::decDigits (valN d.data.toList):=by
      unfold itoa
      rw [if_pos (by omega),show (0 - (valN d.data.toList:Int)).natAbs=valN d.data.toList by omega]
     have dv:=dec_val (List.all_eq_true.1 c2) hd0
     rw [e0]
     by_cases c4:d.data.toList.head? =some 48
     ·rw [if_neg,if_neg (fun h=>h.2 c4)]
      intro e
      rcases dv.1 (List.cons.inj e).2 with q | q
      ·exact q c4
      ·apply c3
       cases hD:d.data.toList with
       | nil=>exact absurd hD hd0
       | cons b t=>
        rw [hD] at q c4
        have:t=[]:=List.length_eq_zero_iff.1 (by simpa using q)
        subst this
        cases c4
        rfl
     ·rw [if_pos (by rw [dv.2 (.inl c4)]),if_pos ⟨okN_iff.2 ⟨by omega,c2,.inl c4⟩,c4⟩]
      congr 2
      omega
   ·rw [if_neg c2]
    dsimp only
    rw [if_neg (fun h=>c2 (okN_iff.1 h.1).2.1)]
 ·rw [if_neg (by rw [decide_eq_true_iff];exact c)]
  unfold numOf
  rw [if_neg c]
  unfold impl_ReadDecimal_k4
  by_cases c1:(s.size:Int) <1∨(s.size:Int) >18
  ·rw [if_pos c1,if_neg]
   intro h
   have:=(okN_iff.1 h).1
   omega
  ·rw [if_neg c1,lp s (by omega),Option.bind_some]
   by_cases c2:s.data.toList.all isDig=true
   ·have hv:=valN_i64 c2 (by omega)
    have hd0:s.data.toList≠[]:=fun e=>by rw [hz,e] at c1;simp at c1
    rw [if_pos c2]
    dsimp only
    rw [if_neg (by omega),k15 _ (by omega) (by omega)]
    have e0:itoa (valN s.data.toList:Int)=decDigits (valN s.data.toList):=by
     unfold itoa
     rw [if_neg (by omega),Int.toNat_natCast]
    have dv:=dec_val (List.all_eq_true.1 c2) hd0
    rw [e0]
    by_cases c4:s.data.toList.head? ≠some 48∨s.data.toList.length=1
    ·rw [if_pos (dv.2 c4),if_pos (okN_iff.2 ⟨by omega,c2,c4⟩)]
    ·rw [if_neg (fun e=>c4 (dv.1 e)),if_neg (fun h=>c4 (okN_iff.1 h).2.2)]
   ·rw [if_neg c2]
    dsimp only
    rw [if_neg (fun h=>c2 (okN_iff.1 h).2.1)]
def sizeOf2 (L:List UInt8):Int×Int×Bool:=
 if 0≤Go.Lib.index L [120] then
  ((numOf (L.take (Go.Lib.index L [120]).toNat)).1,(numOf (L.drop ((Go.Lib.index L [120]).toNat+1))).1,(numOf (L.take (Go.Lib.index L [120]).toNat)).2&&(numOf (L.drop ((Go.Lib.index L [120]).toNat+1))).2)
 else ((numOf L).1,0,false)
theorem readsize_eq (s:ByteArray) (hs:s.size≤1048576):impl_readSize s=some (sizeOf2 s.data.toList):=by
 have hz:=size_len s
 unfold impl_readSize cutS
 rw [if_pos (by omega),Option.bind_some]
 have e120:(⟨#[120]⟩:ByteArray).data.toList=[120]:=rfl
 have hb:∀l:List UInt8,(⟨l.toArray⟩:ByteArray).data.toList=l:=fun l=>rfl
 unfold cutA
 rw [e120]
 unfold Go.Lib.cut sizeOf2
 by_cases c:0≤Go.Lib.index s.data.toList [120]
 ·rw [if_pos c,if_pos c]
  dsimp only
  rw [readdec_eq _ (by rw [size_len,hb,List.length_take];omega),Option.bind_some,readdec_eq _ (by rw [size_len,hb,List.length_drop];omega),Option.bind_some]
  simp only [hb,List.length_singleton,Bool.true_and]
 ·rw [if_neg c,if_neg c]
  dsimp only
  rw [readdec_eq _ (by rw [size_len,hb];omega),Option.bind_some,readdec_eq _ (by rw [size_len,hb];simp),Option.bind_some]
  simp only [hb,Bool.false_and]
  rfl
theorem drawnR_ev {c:List Int} (hc:∀x∈c,0≤x∧x≤255):Ev (spec_DrawRowPieces c) (fun _=>True):=by
 unfold spec_DrawRowPieces
 refine Ev.bind (from_ev c) fun s h=>?_
 refine Ev.bind (room_ev hc h (by omega)) fun r1 h1=>?_
 refine Ev.bind (stock_ev hc h1 (by omega)) fun r2 h2=>?_
 refine Ev.bind (first_ev hc h2 (by omega) _) fun r3 h3=>?_
 exact Ev.ret trivial
theorem drawnS_ev {c:List Int} (hc:∀x∈c,0≤x∧x≤255):Ev (spec_DrawStaggered c) (fun _=>True):=by
 unfold spec_DrawStaggered
 refine Ev.bind (from_ev c) fun s h=>?_
 refine Ev.bind (room_ev hc h (by omega)) fun r1 h1=>?_
 refine Ev.bind (stock_ev hc h1 (by omega)) fun r2 h2=>?_
 refine Ev.bind (first_ev hc h2 (by omega) _) fun r3 h3=>?_
 refine Ev.bind (first_ev hc h3 (by omega) _) fun r4 h4=>?_
 exact Ev.ret trivial
theorem sum_rep (q:Nat) (B:Int):(List.replicate q B).sum=(q:Int) *B:=by
 induction q with
 | zero=>simp
 | succ q ih=>
  rw [List.replicate_succ,List.sum_cons,ih,Int.natCast_add,Int.add_mul]
  omega
structure RwX (r:S_Room) (k:S_Stock) (x:S_row):Prop where
 len:x.pieces.length=x.joints.length+1
 sum:x.pieces.sum=r.Width
 pcs:∀p∈x.pieces,p≤k.Board∧1≤p∧(x.pieces.length>1→k.Least≤p)
theorem row_okX {r:S_Room} {k:S_Stock} (hr:Rm r) (hk:Sk k) (f:Int):∃x c,impl_makeRow r k f=some (x,c)∧x.joints.length≤20001∧(∀j∈x.joints,0≤j∧j≤20000)∧(c=0→RwX r k x):=by
 obtain ⟨⟨w1,w2⟩,_⟩:=hr
 obtain ⟨⟨b1,b2⟩,_,⟨l1,l2⟩,_⟩:=hk
 unfold impl_makeRow
 simp only [within_eq,Option.bind_some,decide_eq_true_eq]
 by_cases c1:k.Least≤f∧f≤k.Board
 ·rw [if_pos c1]
  by_cases c2:r.Width≤f
  ·rw [if_pos c2]
   refine ⟨_,_,rfl,by simp,by simp,fun _=>⟨by simp,by simp,?_⟩⟩
   intro p hp
   simp only [List.mem_singleton] at hp
   subst hp
   simp
   omega
  ·rw [if_neg c2]
   obtain ⟨q,q1,q2,q3⟩:=gf_q (w:=r.Width - f) (B:=k.Board) (by omega) (by omega)
   rw [gf_rowL (by omega) b2 (by omega) w2 q1 q2 q3]
   simp only [Option.bind_some]
   have hj:∀j∈jts f k.Board (q+1),0≤j∧j≤20000:=by
    intro j hj
    unfold jts at hj
    obtain ⟨i,hi,rfl⟩:=List.mem_map.1 hj
    have hi:=List.mem_range.1 hi
    have m1:=mul_mono (B:=k.Board) (by omega) (show i≤q by omega)
    have m2:0≤(i:Int) *k.Board:=Int.mul_nonneg (by omega) (by omega)
    omega
   have hl:(jts f k.Board (q+1)).length≤20001:=by rw [jts_length];omega
   by_cases c3:r.Width - f - (q:Int) *k.Board<k.Least
   ·rw [if_pos c3]
    exact ⟨_,_,rfl,by simp,by simp,fun h=>by cases h⟩
   ·rw [if_neg c3]
    refine ⟨_,_,rfl,hl,hj,fun _=>⟨?_,?_,?_⟩⟩
    ·simp only [jts_length]
     simp
    ·simp only [List.sum_cons,List.sum_append,sum_rep,List.sum_nil]
     omega
    ·intro p hp
     simp only [List.mem_cons,List.mem_append,List.mem_replicate,List.not_mem_nil,or_false] at hp
     rcases hp with rfl | ⟨_,rfl⟩ | rfl<;>omega
 ·rw [if_neg c1]
  exact ⟨_,_,rfl,by simp,by simp,fun h=>by cases h⟩
theorem abs_sym {x y:Int} (hx:0≤x∧x≤20000) (hy:0≤y∧y≤20000):impl_absolute (w64 (x - y))=some (max2 (x - y) (y - x)):=by
 unfold impl_absolute
 rw [w64_id (n:=x - y) (by omega) (by omega),w64_id (by omega) (by omega),show 0 - (x - y)=y - x by omega]
theorem stag_sym {k:S_Stock} {a b:S_row} (ha:a.joints.length≤20001) (hb:b.joints.length≤20001) (ja:∀j∈a.joints,0≤j∧j≤20000) (jb:∀j∈b.joints,0≤j∧j≤20000):impl_staggered a b k=impl_staggered b a k:=by
 by_cases hs:k.Stagger≤0
 ·have all:∀a b:S_row,a.joints.length≤20001→b.joints.length≤20001→(∀j∈a.joints,0≤j∧j≤20000)→(∀j∈b.joints,0≤j∧j≤20000)→impl_staggered a b k=some true:=by
   intro a b ha hb ja jb
   have:Ev (loopO (impl_staggered_l2 a b k) (0,0)) (fun o=>o= .inl ()):=by
    refine Ev.loop (fun s=>0≤s.1∧s.1≤20001∧0≤s.2∧s.2≤20001) (fun s=>(40010 - s.1 - s.2).toNat) ?_ ⟨by omega,by omega,by omega,by omega⟩
    rintro ⟨i,n⟩ ⟨i0,i1,n0,n1⟩
    unfold impl_staggered_l2
    simp only at i0 i1 n0 n1 ⊢
    refine Ev.ite (fun hc=>?_) fun _=>Ev.ret rfl
    refine Ev.bind (Ev.rd i0 hc.1) fun x hx=>?_
    refine Ev.bind (Ev.rd n0 hc.2) fun y hy=>?_
    rw [abs_sym (ja x hx.1) (jb y hy.1),Option.bind_some]
    have:=max2_cases (x - y) (y - x)
    refine Ev.ite (fun h=>absurd h (by omega)) fun _=>?_
    refine Ev.bind (Ev.rd i0 hc.1) fun x _=>?_
    refine Ev.bind (Ev.rd n0 hc.2) fun y _=>?_
    rw [w64_id (n:=i+1) (by omega) (by omega),w64_id (n:=n+1) (by omega) (by omega)]
    exact Ev.ite (fun _=>Ev.ret ⟨⟨by simp only;omega,by simp only;omega,n0,n1⟩,by simp only;omega⟩) fun _=>Ev.ret ⟨⟨i0,i1,by simp only;omega,by simp only;omega⟩,by simp only;omega⟩
   obtain ⟨o,h1,rfl⟩:=this
   unfold impl_staggered
   rw [h1]
   rfl
  rw [all a b ha hb ja jb,all b a hb ha jb ja]
 ·unfold impl_staggered
  have e:=loopO_sim (f:=impl_staggered_l2 a b k) (g:=impl_staggered_l2 b a k) (fun s:Int×Int=>(s.2,s.1)) id (fun s=>?_) (0,0)
  ·rw [Option.map_id,id] at e
   exact congrArg (fun z=>Option.bind z _) e.symm
  ·obtain ⟨i,n⟩:=s
   unfold impl_staggered_l2
   simp only
   by_cases hc:i< (a.joints.length:Int)∧n< (b.joints.length:Int)
   ·rw [if_pos hc,if_pos ⟨hc.2,hc.1⟩]
    cases hx:rd a.joints i with
    | none=>cases hy:rd b.joints n<;>rfl
    | some x=>
     cases hy:rd b.joints n with
     | none=>rfl
     | some y=>
      have mx:x∈a.joints:=by
       unfold rd at hx
       split at hx
       ·exact List.mem_of_getElem? hx
       ·cases hx
      have my:y∈b.joints:=by
       unfold rd at hy
       split at hy
       ·exact List.mem_of_getElem? hy
       ·cases hy
      have c1:=max2_cases (x - y) (y - x)
      simp only [Option.bind_some,abs_sym (ja x mx) (jb y my),abs_sym (jb y my) (ja x mx),max2_comm (y - x) (x - y)]
      by_cases d:max2 (x - y) (y - x) <k.Stagger
      ·rw [if_pos d,if_pos d]
       rfl
      ·rw [if_neg d,if_neg d]
       by_cases d2:x<y
       ·rw [if_pos d2,if_neg (by omega)]
        rfl
       ·rw [if_neg d2,if_pos (by omega)]
        rfl
   ·rw [if_neg hc,if_neg (fun h=>hc ⟨h.2,h.1⟩)]
    rfl
theorem staggered_ok (s:S_Room) (t:S_Stock) (a b:Int):∃v,impl_Staggered s t a b=some v∧impl_Staggered s t b a=some v:=by
 unfold impl_Staggered
 rw [gf_impl]
 simp only [Option.bind_some]
 by_cases h:Rm s∧Sk t
 ·rw [if_pos h]
  obtain ⟨x,c,x1,x2,x3,_⟩:=row_okX h.1 h.2 a
  obtain ⟨y,d,y1,y2,y3,_⟩:=row_okX h.1 h.2 b
  obtain ⟨v,hv⟩:=stag_ok (k:=t) x2 y2
  have hw:=stag_sym (k:=t) x2 y2 x3 y3
  rw [hv] at hw
  simp only [ne_eq,not_true,if_false,x1,y1,Option.bind_some,hv,←hw]
  by_cases c0:c=0<;>by_cases d0:d=0<;>simp [c0,d0]
 ·rw [if_neg h]
  exact ⟨false,rfl,rfl⟩
def roomOK (r:S_Room):Bool:=decide (1≤r.Width∧r.Width≤20000)&&decide (1≤r.Length∧r.Length≤20000)
theorem room_spec (r:S_Room):spec_l30Room r=some (roomOK r):=by
 unfold spec_l30Room roomOK
 simp only [in_eq,Option.bind_some]
 by_cases c:1≤r.Width∧r.Width≤20000
 ·simp [c]
 ·simp only [decide_eq_false c]
  rfl
theorem room_impl (r:S_Room):impl_ValidRoom r=some (roomOK r):=by
 unfold impl_ValidRoom roomOK
 simp only [within_eq,Option.bind_some]
 by_cases c:1≤r.Width∧r.Width≤20000
 ·simp [c]
 ·simp only [decide_eq_false c]
  rfl
def readR (L:List UInt8):S_Room×Bool:=
 if (sizeOf2 L).2.2=true∧roomOK ⟨(sizeOf2 L).1,(sizeOf2 L).2.1⟩=true then (⟨(sizeOf2 L).1,(sizeOf2 L).2.1⟩,true) else (⟨0,0⟩,false)
theorem read_impl (s:ByteArray) (hs:s.size≤1048576):impl_ReadRoom s=some (readR s.data.toList):=by
 unfold impl_ReadRoom readR
 rw [readsize_eq s hs,Option.bind_some]
 simp only [room_impl,Option.bind_some]
 cases h1:(sizeOf2 s.data.toList).2.2 with
 | false=>simp
 | true=>cases h2:roomOK ⟨(sizeOf2 s.data.toList).1,(sizeOf2 s.data.toList).2.1⟩<;>simp
theorem dd_dig:∀(n u:Nat),u≤n→(decDigits u).all isDig=true∧valN (decDigits u)=u:=by
 intro n
 induction n with
 | zero=>
  intro u h
  obtain rfl:u=0:=by omega
  rw [decDigits,dif_pos (by omega)]
  exact ⟨by decide,by decide⟩
 | succ n ih=>
  intro u h
  rw [decDigits]
  by_cases c:u<10
  ·rw [dif_pos c]
   have:=dg_toNat c
   refine ⟨?_,?_⟩
   ·rw [List.all_cons,List.all_nil,Bool.and_true]
    exact isDig_iff.2 (by omega)
   ·show 10*0+((UInt8.ofNat (48+u)).toNat - 48)=u
    omega
  ·rw [dif_neg c]
   obtain ⟨h1,h2⟩:=ih (u / 10) (by omega)
   have:=dg_toNat (show u % 10<10 by omega)
   refine ⟨?_,?_⟩
   ·rw [List.all_append,h1,List.all_cons,List.all_nil,Bool.and_true,Bool.true_and]
    exact isDig_iff.2 (by omega)
   ·rw [valN_snoc,h2]
    omega
theorem num_itoa {n:Int} (h0:1≤n) (h1:n≤20000):numOf (itoa n)=(n,true)∧(120:UInt8)∉itoa n:=by
 have e:itoa n=decDigits n.toNat:=by
  unfold itoa
  rw [if_neg (by omega)]
 obtain ⟨d1,d2⟩:=dd_dig _ n.toNat (Nat.le_refl _)
 have hl:(decDigits n.toNat).length≤5:=dd_len 4 _ (by have:10 ^ (4+1)=100000:=by decide
                                                      omega)
 have hn:=dd_ne n.toNat
 have hh:=dd_head _ n.toNat (Nat.le_refl _) (by omega)
 have hp:=List.length_pos_iff.2 hn
 have no:∀c:UInt8,isDig c=false→c∉decDigits n.toNat:=fun c hc hm=>by
  rw [List.all_eq_true.1 d1 c hm] at hc
  cases hc
 rw [e]
 refine ⟨?_,no 120 (by decide)⟩
 unfold numOf
 rw [if_neg,if_pos (okN_iff.2 ⟨by omega,d1,.inl hh⟩),d2]
 ·congr 1
  omega
 ·intro h
  exact no 45 (by decide) (List.mem_of_head? h)
theorem back (r:S_Room):∃t x b,impl_RoomText r=some t∧impl_ReadRoom t=some (x,b)∧b=roomOK r∧(b=true→x=r):=by
 unfold impl_RoomText
 rw [room_impl,Option.bind_some]
 cases h:roomOK r with
 | false=>
  simp only [Bool.false_eq_true,if_false]
  refine ⟨_,_,_,rfl,read_impl _ (by decide),?_,?_⟩<;>simp [readR,sizeOf2,Go.Lib.index]
 | true=>
  have hr:(1≤r.Width∧r.Width≤20000)∧1≤r.Length∧r.Length≤20000:=by
   unfold roomOK at h
   simpa using h
  have s1:=dcm_size (n:=r.Width) (by omega) (by omega)
  have s2:=dcm_size (n:=r.Length) (by omega) (by omega)
  have e1:(⟨#[120]⟩:ByteArray).size=1:=rfl
  have k1:=cat_some (a:=dcm r.Width) (b:=⟨#[120]⟩) (by omega)
  have e2:(dcm r.Width++(⟨#[120]⟩:ByteArray)).size=(dcm r.Width).size+1:=by rw [ByteArray.size_append];rfl
  have k2:=cat_some (a:=dcm r.Width++⟨#[120]⟩) (b:=dcm r.Length) (by omega)
  have e3:(dcm r.Width++(⟨#[120]⟩:ByteArray)++dcm r.Length).size≤1048576:=by rw [ByteArray.size_append];omega
  simp only [if_true,impl_Decimal,fmt_eq (n:=r.Width) (by omega) (by omega),fmt_eq (n:=r.Length) (by omega) (by omega),Option.bind_some,k1,k2]
  have hrd:readR (dcm r.Width++(⟨#[120]⟩:ByteArray)++dcm r.Length).data.toList=(r,true):=by
   have hd:(dcm r.Width++(⟨#[120]⟩:ByteArray)++dcm r.Length).data.toList=itoa r.Width++120::itoa r.Length:=by
    simp [dcm,ByteArray.data_append]
   rw [hd]
   obtain ⟨n1,m1⟩:=num_itoa hr.1.1 hr.1.2
   obtain ⟨n2,m2⟩:=num_itoa hr.2.1 hr.2.2
   have hix:Go.Lib.index (itoa r.Width++120::itoa r.Length) [120]=((itoa r.Width).length:Int):=by
    rcases spl_cut 120 (itoa r.Width++120::itoa r.Length) with ⟨_,q,_⟩ | ⟨a,t,q1,q2,_,q4⟩
    ·exact absurd (by simp) q
    ·rw [q4]
     have:∀(a b t u:List UInt8),(120:UInt8)∉a→(120:UInt8)∉b→a++120::t=b++120::u→a.length=b.length:=by
      intro a
      induction a with
      | nil=>
       intro b t u _ hb e
       cases b with
       | nil=>rfl
       | cons y b=>
        have:=(List.cons.inj e).1
        exact absurd (by rw [←this];exact List.mem_cons_self) hb
      | cons x a ih=>
       intro b t u ha hb e
       cases b with
       | nil=>
        have:=(List.cons.inj e).1
        exact absurd (by rw [this];exact List.mem_cons_self) ha
       | cons y b=>
        have:=ih b t u (fun h=>ha (List.mem_cons_of_mem _ h)) (fun h=>hb (List.mem_cons_of_mem _ h)) (List.cons.inj e).2
        simp [this]
     rw [this _ _ _ _ q2 m1 q1.symm]
   unfold readR sizeOf2
   rw [hix,if_pos (show (0:Int)≤((itoa r.Width).length:Int) by omega),Int.toNat_natCast]
   have t1:(itoa r.Width++120::itoa r.Length).take (itoa r.Width).length=itoa r.Width:=by simp
   have t2:(itoa r.Width++120::itoa r.Length).drop ((itoa r.Width).length+1)=itoa r.Length:=by simp
   rw [t1,t2,n1,n2]
   have:roomOK ⟨r.Width,r.Length⟩=true:=h
   simp [this]
  exact ⟨_,r,true,rfl,(read_impl _ e3).trans (congrArg some hrd),rfl,fun _=>rfl⟩
theorem k16_ok {m:List Int} (hm:∀x∈m,0≤x∧x≤255) (x:S_Room×S_Stock×Int):laws_FnRooms_k16 m x=some true:=by
 unfold laws_FnRooms_k16
 obtain ⟨⟨s,t,a,b⟩,hd,_⟩:=drawnS_ev hm
 rw [hd,Option.bind_some]
 obtain ⟨v,v1,v2⟩:=staggered_ok s t a b
 simp only [v1,v2,Option.bind_some,if_true]
 obtain ⟨t,y,b,b1,b2,b3,b4⟩:=back x.1
 rw [b1,Option.bind_some,b2,Option.bind_some]
 unfold spec_ValidRoom
 rw [room_spec,Option.bind_some,Option.bind_some]
 subst b3
 cases hb:roomOK x.1 with
 | false=>simp
 | true=>rw [b4 hb];simp
theorem law_Rooms (c m:List Int) (hc:∀x∈c,0≤x∧x≤255) (hm:∀x∈m,0≤x∧x≤255):laws_FnRooms c m=some true:=by
 unfold laws_FnRooms laws_b10Long
 simp only [Option.bind_some]
 by_cases c1:decide ((c.length:Int) >1048576)=true
 ·rw [if_pos c1];rfl
 rw [if_neg c1]
 simp only [Option.bind_some]
 by_cases c2:decide ((m.length:Int) >1048576)=true
 ·rw [if_pos c2]
 rw [if_neg c2]
 obtain ⟨⟨r,k,f⟩,hd,_⟩:=drawnR_ev hc
 rw [hd]
 simp only [Option.bind_some]
 unfold impl_RowPieces impl_RowJoints
 rw [gf_impl]
 simp only [Option.bind_some]
 by_cases h:Rm r∧Sk k
 ·rw [if_pos h]
  obtain ⟨x,d,x1,x2,x3,x4⟩:=row_okX h.1 h.2 f
  simp only [ne_eq,not_true,if_false,x1,Option.bind_some]
  by_cases hz:d=0
  ·rw [if_pos hz]
   obtain ⟨y1,y2,y3⟩:=x4 hz
   have hk:=h.2
   obtain ⟨⟨b1,b2⟩,_,⟨l1,l2⟩,_⟩:=hk
   have hs:=(loop_sum (f:=laws_b10Sum_l3 x.pieces) x.pieces id 5000 (by omega) (by omega) (fun p hp=>by have:=y3 p hp;simp only [id];omega) (fun s i hi=>by
    unfold laws_b10Sum_l3
    simp only
    rw [if_pos (by omega),rd_lt hi]
    rfl) (fun s=>by
    unfold laws_b10Sum_l3
    simp only
    rw [if_neg (by omega)])).1
   unfold laws_b10Sum
   rw [hs,List.map_id,y2,Option.bind_some,Option.bind_some,if_neg (by rw [w64_id (by omega) (by omega)];omega)]
   have he:=eqS_refl (f:=laws_FnRooms_l12 (r,k,f) (x.pieces,d)) (n:=x.pieces.length) (by omega) (fun i hi=>by
    unfold laws_FnRooms_l12
    simp only
    have hp:=y3 _ (List.getElem_mem hi)
    rw [if_pos (by omega),rd_lt hi]
    simp only [Option.bind_some]
    rw [if_neg (by omega)]
    by_cases hq:(x.pieces.length:Int) >1
    ·have:=hp.2.2 (by omega)
     rw [if_pos hq,if_neg (by omega),Option.bind_some,if_neg (by rw [decide_eq_true_iff];omega)]
    ·rw [if_neg hq,Option.bind_some,if_neg (by rw [decide_eq_true_iff];omega)]) (by
    unfold laws_FnRooms_l12
    simp only
    rw [if_neg (by omega)])
   rw [he,Option.bind_some]
   exact k16_ok hm _
  ·rw [if_neg hz]
   exact k16_ok hm _
 ·rw [if_neg h]
  simp only [ne_eq,Int.one_ne_zero,not_false_iff,if_true,not_true,if_false,Option.bind_some]
  exact k16_ok hm _
end Go.Pw
