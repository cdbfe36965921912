/- The plain law of FnColours. Conditions: none. -/
import Derived.Test.YtmjgfdlefaackaaTclT
import Derived.Test.YtmjgfdlefaackaaSimPe
import Derived.Test.YtmjgfdlefaackaaSimPn
import Derived.Test.YtmjgfdlefaackaaSimRh
namespace Go.Pw
open Go.Sim (min2 max2)
set_option linter.unusedVariables false
set_option linter.unusedSimpArgs false
set_option linter.unusedSectionVars false
theorem Bc (n a b:Int):jS n a b=some (decide (a≤n∧n≤b)):=by
 unfold jS
 rw [Bool.decide_and]
theorem zS (l:List Int) (n:Int) (hl:l.length≤1048576):lF l n=some (decide (n∈l)):=by
 unfold lF
 rcases KN (f:=lD l n) l (fun x=>!decide (x=n)) (fun _=>true) (by omega) (fun i hi=>by
  unfold lD
  rw [if_pos (by omega),fO hi,Option.bind_some]
  by_cases c:l[i]=n<;>simp [c]) (by unfold lD;rw [if_neg (by omega)]) with ⟨h1,h2⟩ | ⟨h1,i,hi,h2⟩
 ·rw [h2]
  have:¬n∈l:=fun h=>by
   have:=List.all_eq_true.1 h1 n h
   simp at this
  simp [this]
 ·rw [h2]
  have:n∈l:=by
   rw [List.all_eq_false] at h1
   obtain ⟨x,hx,h⟩:=h1
   simp at h
   exact h ▸ hx
  simp [this]
theorem xO {x:Int}:∀l,x∈cmpL l↔x∈l
 | []=>Iff.rfl
 | a::t=>by
  unfold cmpL
  by_cases c:t.head? =some a
  ·rw [if_pos c,xO t,List.mem_cons]
   exact ⟨.inr,fun h=>h.elim (fun e=>by subst e;exact List.mem_of_mem_head? c) id⟩
  ·rw [if_neg c,List.mem_cons,List.mem_cons,xO t]
theorem zT:∀l,l.Pairwise (·≤·)→(cmpL l).Pairwise (· < ·)
 | [],_=>List.Pairwise.nil
 | a::t,h=>by
  obtain ⟨h1,h2⟩:=List.pairwise_cons.1 h
  unfold cmpL
  by_cases c:t.head? =some a
  ·rw [if_pos c];exact zT t h2
  ·rw [if_neg c]
   refine List.pairwise_cons.2 ⟨fun x hx=>?_,zT t h2⟩
   have hx:=(xO t).1 hx
   cases t with
   | nil=>cases hx
   | cons b t=>
    have hb:=h1 b (List.mem_cons_self ..)
    have hab:a≠b:=fun e=>c (by rw [e];rfl)
    rcases List.mem_cons.1 hx with rfl | hx
    ·omega
    ·have:=(List.pairwise_cons.1 h2).1 x hx
     omega
def nb (G:List Int):List Int:=G.foldl (fun acc x=>if x∈acc then acc else acc++[x]) []
theorem KO (G:List Int) (x:Int):nb (G++[x])=if x∈nb G then nb G else nb G++[x]:=by
 unfold nb
 rw [List.foldl_append]
 rfl
theorem IP {p:List Int→Prop} (h0:p []) (h1:∀G x,p G→p (G++[x])):∀G,p G:=by
 intro G
 have:∀n (G:List Int),G.length=n→p G:=by
  intro n
  induction n with
  | zero=>intro G h;rw [List.eq_nil_of_length_eq_zero h];exact h0
  | succ n ih=>
   intro G h
   rcases List.eq_nil_or_concat G with rfl | ⟨L,y,rfl⟩
   ·cases h
   ·rw [List.concat_eq_append] at h ⊢
    rw [List.length_append,List.length_singleton] at h
    exact h1 L y (ih L (by omega))
 exact this G.length G rfl
theorem O4 {x:Int}:∀G,x∈nb G↔x∈G:=by
 refine IP (p:=fun G=>x∈nb G↔x∈G) Iff.rfl fun G y ih=>?_
 rw [KO]
 by_cases c:y∈nb G
 ·rw [if_pos c,ih,List.mem_append,List.mem_singleton]
  exact ⟨.inl,fun h=>h.elim id fun e=>by subst e;exact ih.1 c⟩
 ·rw [if_neg c,List.mem_append,List.mem_append,ih]
theorem IQ:∀G,(nb G).Nodup:=by
 refine IP (p:=fun G=>(nb G).Nodup) List.Pairwise.nil fun G y ih=>?_
 rw [KO]
 by_cases c:y∈nb G
 ·rw [if_pos c];exact ih
 ·rw [if_neg c]
  exact List.nodup_append.2 ⟨ih,by simp,fun a ha b hb e=>c (by rw [List.mem_singleton] at hb;rw [←hb,←e];exact ha)⟩
def kn (G:List Int):Nat:=(nb G).length
theorem VG (G:List Int) (n:Nat) (h:∀x∈G,0≤x∧x<n):kn G≤n:=by
 have:=vP (nb G) (upto n) (IQ G) fun x hx=>IM.2 (h x ((O4 G).1 hx))
 rw [Eb] at this
 exact this
def Sr (c:List Int) (n:Int) (s:aP):Prop:=s.code=c∧0≤s.at_∧s.at_≤n
theorem Sr.mono {c:List Int} {n m:Int} {s:aP} (h:Sr c n s) (hm:n≤m):Sr c m s:=⟨h.1,h.2.1,by have:=h.2.2;omega⟩
theorem Ul (x:Int):0≤BU .u64 x 255∧BU .u64 x 255≤255:=by
 unfold BU
 have h1:(BitVec.ofInt IntKind.u64.bits x &&& BitVec.ofInt IntKind.u64.bits 255).toNat≤255:=by
  rw [BitVec.toNat_and]
  exact Nat.le_trans Nat.and_le_right (by decide)
 generalize (BitVec.ofInt IntKind.u64.bits x &&& BitVec.ofInt IntKind.u64.bits 255).toNat=k at h1
 have e:IntKind.wrap .u64 (k:Int)=(k:Int):=by
  simp only [IntKind.wrap,IntKind.signed,IntKind.bits]
  simp
  omega
 rw [e]
 omega
theorem KP {c:List Int} (hc:∀x∈c,0≤x∧x≤255) {n:Int} (hn:n≤1000000000) {s:aP} (h:Sr c n s):∃v s',iW s=some (v,s')∧0≤v∧v≤255∧Sr c (n+1) s':=by
 obtain ⟨h1,h2,h3⟩:=h
 have e1:w64 (s.at_+1)=s.at_+1:=bT (by omega) (by omega)
 have k4:∀b,0≤b→b≤255→∃v s',fG s b=some (v,s')∧0≤v∧v≤255∧Sr c (n+1) s':=by
  intro b b1 b2
  unfold fG shr
  rw [e1]
  by_cases q:s.at_+1≤(s.code.length:Int)
  ·rw [if_pos q]
   exact ⟨_,_,rfl,b1,b2,h1,by show 0≤s.at_+1;omega,by show s.at_+1≤n+1;omega⟩
  ·rw [if_neg q,if_neg (by decide)]
   simp only [Option.bind_some]
   have a:=Ul (Int.fdiv (IntKind.wrap .u64 ((IntKind.wrap .u64 ((IntKind.wrap .u64 (s.seed*6364136223846793005))+(IntKind.wrap .u64 b)))+1442695040888963407)) (2 ^ min (Int.toNat 40) IntKind.u64.bits))
   refine ⟨_,_,rfl,?_,?_,h1,by show 0≤s.at_+1;omega,by show s.at_+1≤n+1;omega⟩
   ·rw [bT (by omega) (by omega)];exact a.1
   ·rw [bT (by omega) (by omega)];exact a.2
 unfold iW
 by_cases q:s.at_< (s.code.length:Int)
 ·rw [if_pos q]
  obtain ⟨i,hi⟩:∃i:Nat,s.at_=(i:Int):=⟨s.at_.toNat,by omega⟩
  have hlt:i<s.code.length:=by omega
  rw [hi,fO hlt,Option.bind_some]
  have hb:=hc s.code[i] (by rw [←h1];exact List.getElem_mem hlt)
  rw [bT (by omega) (by omega)]
  exact k4 _ hb.1 hb.2
 ·rw [if_neg q]
  exact k4 0 (by omega) (by omega)
theorem KQ {c:List Int} (hc:∀x∈c,0≤x∧x≤255) {n:Int} (hn:n≤999999999) {s:aP} (h:Sr c n s) (m:Int):∃v s',dn s m=some (v,s')∧0≤v∧(1≤m→v<m)∧Sr c (n+2) s':=by
 unfold dn
 by_cases q:m≤1
 ·rw [if_pos q]
  exact ⟨_,_,rfl,by omega,by omega,h.mono (by omega)⟩
 ·rw [if_neg q]
  obtain ⟨v,s1,e1,v1,v2,h1⟩:=KP hc (by omega) h
  have k6:∀(x:Int) (t:aP),0≤x→Sr c (n+2) t→∃v s',fH m x t.code t.at_ t.seed=some (v,s')∧0≤v∧(1≤m→v<m)∧Sr c (n+2) s':=by
   intro x t hx ht
   unfold fH md
   rw [if_neg (by omega),Option.bind_some]
   have e:x.tmod m=x % m:=Int.tmod_eq_emod_of_nonneg hx
   refine ⟨_,_,rfl,?_,fun _=>?_,ht⟩
   ·rw [e];exact Int.emod_nonneg _ (by omega)
   ·rw [e];exact Int.emod_lt_of_pos _ (by omega)
  simp only [e1,Option.bind_some]
  by_cases q2:m>200
  ·rw [if_pos q2]
   obtain ⟨w,s2,e2,w1,w2,h2⟩:=KP hc (n:=n+1) (by omega) h1
   simp only [e2,Option.bind_some]
   have a1:w64 (v*256)=v*256:=bT (by omega) (by omega)
   have a2:w64 (v*256+w)=v*256+w:=bT (by omega) (by omega)
   rw [a1,a2]
   exact k6 _ s2 (by omega) (h2.mono (by omega))
  ·rw [if_neg q2]
   exact k6 v s1 v1 (h1.mono (by omega))
theorem Um {c:List Int} (hc:∀x∈c,0≤x∧x≤255) {n:Int} (hn:n≤999999999) {s:aP} (h:Sr c n s) (m:Int):∃v s',iH s m=some (v,s')∧Sr c (n+2) s':=by
 obtain ⟨v,s',e,_,_,h'⟩:=KQ hc hn h m
 unfold iH
 rw [e]
 exact ⟨_,_,rfl,h'⟩
theorem Ro (c:List Int):∃s,oI c=some s∧Sr c 0 s:=⟨_,rfl,rfl,by show (0:Int)≤0;omega,by show (0:Int)≤0;omega⟩
theorem BX {c:List Int} (hc:∀x∈c,0≤x∧x≤255) {n:Int} {s:aP} (h:Sr c n s) (hn:n≤999999999) (m:Int):Ev (dn s m) (fun r=>0≤r.1∧(1≤m→r.1<m)∧Sr c (n+2) r.2):=by
 obtain ⟨v,s',e,h1,h2,h3⟩:=KQ hc (by omega) h m
 exact ⟨_,e,h1,h2,h3⟩
theorem O5 {c:List Int} (hc:∀x∈c,0≤x∧x≤255) {n:Int} {s:aP} (h:Sr c n s) (hn:n≤999999999) (m:Int):Ev (iH s m) (fun r=>Sr c (n+2) r.2):=by
 obtain ⟨v,s',e,h3⟩:=Um hc (by omega) h m
 exact ⟨_,e,h3⟩
theorem Rq (c:List Int):Ev (oI c) (fun s=>Sr c 0 s):=by
 obtain ⟨s,h1,h2⟩:=Ro c
 exact ⟨s,h1,h2⟩
theorem FB (n a b:Int):lH n a b=some (decide (a≤n∧n≤b)):=by
 unfold lH
 rw [Bool.decide_and]
theorem GM (t:ae) (x y:Int):gK t x y=aJ x y t.aB t.High t.Cells:=by
 unfold gK aJ jM
 simp only [Option.bind_assoc,Option.bind_some]
theorem SB (a:Int) {b:Int} (hb:0<b):-b<a.tmod b∧a.tmod b<b:=by
 rcases Int.le_total 0 a with h | h
 ·rw [Int.tmod_eq_emod_of_nonneg h]
  have:=Int.emod_nonneg a (show b≠0 by omega)
  have:=Int.emod_lt_of_pos a hb
  omega
 ·have e:a.tmod b=-((-a).tmod b):=by rw [Int.neg_tmod,Int.neg_neg]
  rw [e,Int.tmod_eq_emod_of_nonneg (show 0≤-a by omega)]
  have:=Int.emod_nonneg (-a) (show b≠0 by omega)
  have:=Int.emod_lt_of_pos (-a) hb
  omega
theorem KR (a:Int) {b:Int} (h0:0<b) (h1:b≤12):∃r,jM a b=some r∧0≤r∧r<b:=by
 have t1:=SB a h0
 unfold jM md
 rw [if_neg (by omega),Option.bind_some,if_neg (by omega),Option.bind_some,bT (by omega) (by omega),Int.tmod_eq_emod_of_nonneg (by omega)]
 exact ⟨_,rfl,Int.emod_nonneg _ (by omega),Int.emod_lt_of_pos _ h0⟩
structure TB (t:ae):Prop where
 w0:1≤t.aB
 w1:t.aB≤12
 h0:1≤t.High
 h1:t.High≤12
 ln:(t.Cells.length:Int)=t.aB*t.High
theorem TB.mul {t:ae} (h:TB t):1≤t.Cells.length∧t.Cells.length≤144:=by
 have a:=Int.mul_le_mul h.w1 h.h1 (by have:=h.h0;omega) (by omega)
 have b:=Int.mul_le_mul h.w0 h.h0 (by omega) (by have:=h.w0;omega)
 have:=h.ln
 omega
theorem KT {t:ae} (h:TB t) (x y:Int):∃r:Int,aJ x y t.aB t.High t.Cells=some r∧0≤r∧r<t.Cells.length:=by
 have w0:=h.w0
 have w1:=h.w1
 have h0:=h.h0
 have h1:=h.h1
 obtain ⟨a,a1,a2,a3⟩:=KR y (show 0<t.High by omega) h1
 obtain ⟨b,b1,b2,b3⟩:=KR x (show 0<t.aB by omega) w1
 have m1:a*t.aB≤(t.High - 1) *t.aB:=Int.mul_le_mul_of_nonneg_right (by omega) (by omega)
 have m0:0≤a*t.aB:=Int.mul_nonneg a2 (by omega)
 have m2:(t.High - 1) *t.aB=t.aB*t.High - t.aB:=by rw [Int.sub_mul,Int.one_mul,Int.mul_comm]
 have hl:=h.ln
 have hm:=h.mul
 unfold aJ
 rw [a1,Option.bind_some,b1,Option.bind_some,bT (n:=a*t.aB) (by omega) (by omega),bT (by omega) (by omega)]
 exact ⟨_,rfl,by omega,by omega⟩
theorem FC {t:ae} (h:TB t) {i:Nat} (hi:i<t.Cells.length):∃a b c e:Int,gY t (i:Int)=some [a,b,c,e]∧cZ t (i:Int)=some ⟨a,c,b,e⟩∧∀y∈[a,b,c,e],0≤y∧y<t.Cells.length:=by
 have w0:=h.w0
 have hm:=h.mul
 unfold gY cZ md dv
 rw [if_neg (by omega),if_neg (by omega)]
 simp only [Option.bind_some,GM]
 obtain ⟨a,a1,a2,a3⟩:=KT h (w64 ((i:Int).tmod t.aB+1)) (IntKind.wrap .i64 ((i:Int).tdiv t.aB))
 obtain ⟨b,b1,b2,b3⟩:=KT h ((i:Int).tmod t.aB) (w64 (IntKind.wrap .i64 ((i:Int).tdiv t.aB)+1))
 obtain ⟨c,c1,c2,c3⟩:=KT h (w64 ((i:Int).tmod t.aB - 1)) (IntKind.wrap .i64 ((i:Int).tdiv t.aB))
 obtain ⟨e,e1,e2,e3⟩:=KT h ((i:Int).tmod t.aB) (w64 (IntKind.wrap .i64 ((i:Int).tdiv t.aB) - 1))
 rw [a1,b1,c1,e1]
 refine ⟨a,b,c,e,rfl,rfl,fun y hy=>?_⟩
 simp only [List.mem_cons,List.not_mem_nil,or_false] at hy
 rcases hy with rfl | rfl | rfl | rfl
 ·exact ⟨a2,a3⟩
 ·exact ⟨b2,b3⟩
 ·exact ⟨c2,c3⟩
 ·exact ⟨e2,e3⟩
noncomputable def nbS (t:ae) (i:Int):List Int:=(gY t i).getD []
theorem zU {t:ae} (h:TB t) {i:Int} (h0:0≤i) (hi:i<t.Cells.length):gY t i=some (nbS t i)∧(nbS t i).length=4∧(∀y∈nbS t i,0≤y∧y<t.Cells.length)∧
 ∃z:qA,cZ t i=some z∧∀y,y∈[z.e0,z.e1,z.e2,z.e3]↔y∈nbS t i:=by
 obtain ⟨k,rfl⟩:∃k:Nat,i=(k:Int):=⟨i.toNat,by omega⟩
 obtain ⟨a,b,c,e,h1,h2,h3⟩:=FC h (i:=k) (by omega)
 have e0:nbS t (k:Int)=[a,b,c,e]:=by unfold nbS;rw [h1];rfl
 rw [e0]
 refine ⟨h1,rfl,h3,_,h2,fun y=>?_⟩
 simp only [List.mem_cons,List.not_mem_nil,or_false]
 constructor
 ·rintro (h | h | h | h)
  ·exact .inl h
  ·exact .inr (.inr (.inl h))
  ·exact .inr (.inl h)
  ·exact .inr (.inr (.inr h))
 ·rintro (h | h | h | h)
  ·exact .inl h
  ·exact .inr (.inr (.inl h))
  ·exact .inr (.inl h)
  ·exact .inr (.inr (.inr h))
def gc (t:ae) (y:Int):Int:=t.Cells.getD y.toNat (-1)
theorem uG {t:ae} {y:Int} (h0:0≤y) (h1:y<t.Cells.length):rd t.Cells y=some (gc t y):=by
 obtain ⟨k,rfl⟩:∃k:Nat,y=(k:Int):=⟨y.toNat,by omega⟩
 have hk:k<t.Cells.length:=by omega
 unfold gc
 rw [fO hk,Int.toNat_natCast,List.getD_eq_getElem?_getD,List.getElem?_eq_getElem hk]
 rfl
def rC (t:ae) (k:Int) (L:List Int) (y:Int):List Int:=if gc t y=k∧¬y∈L then L++[y] else L
theorem O6 {t:ae} {k:Int} {L:List Int} {y x:Int}:x∈rC t k L y↔x∈L∨(x=y∧gc t x=k):=by
 unfold rC
 split
 ·rename_i h
  rw [List.mem_append,List.mem_singleton]
  exact ⟨fun q=>q.imp id fun e=>⟨e,e ▸ h.1⟩,fun q=>q.imp id fun e=>e.1⟩
 ·rename_i h
  refine ⟨.inl,fun q=>?_⟩
  rcases q with q | ⟨rfl,q⟩
  ·exact q
  ·by_cases c:x∈L
   ·exact c
   ·exact absurd ⟨q,c⟩ h
theorem vS {t:ae} {k x:Int}:∀(Y L:List Int),x∈Y.foldl (rC t k) L↔x∈L∨(x∈Y∧gc t x=k)
 | [],L=>by simp
 | y::Y,L=>by
  rw [List.foldl_cons,vS Y,O6,List.mem_cons]
  constructor
  ·rintro ((h | ⟨h,g⟩) | ⟨h,g⟩)
   ·exact .inl h
   ·exact .inr ⟨.inl h,g⟩
   ·exact .inr ⟨.inr h,g⟩
  ·rintro (h | ⟨h | h,g⟩)
   ·exact .inl (.inl h)
   ·exact .inl (.inr ⟨h,g⟩)
   ·exact .inr ⟨h,g⟩
theorem zV {t:ae} {k:Int}:∀(Y L:List Int),∃M,Y.foldl (rC t k) L=L++M∧M.length≤Y.length
 | [],L=>⟨[],by simp,by simp⟩
 | y::Y,L=>by
  rw [List.foldl_cons]
  obtain ⟨M,h,hl⟩:=zV Y (rC t k L y)
  rw [h]
  unfold rC
  split
  ·exact ⟨[y]++M,by rw [List.append_assoc],by simp;omega⟩
  ·exact ⟨M,rfl,by rw [List.length_cons];omega⟩
theorem KU {t:ae} {k:Int}:∀(Y L:List Int),L.Nodup→(Y.foldl (rC t k) L).Nodup
 | [],L,h=>h
 | y::Y,L,h=>by
  rw [List.foldl_cons]
  refine KU Y _ ?_
  unfold rC
  split
  ·rename_i c
   exact List.nodup_append.2 ⟨h,List.nodup_cons.2 ⟨List.not_mem_nil,List.nodup_nil⟩,fun a ha b hb e=>c.2 (by rw [List.mem_singleton.1 hb] at e;exact e ▸ ha)⟩
  ·exact h
theorem q_s {t:ae} {k:Int} {X:List Int} (hX:∀y∈X,0≤y∧y<t.Cells.length) (hXl:X.length≤100) {L:List Int} (hL:L.length≤10000):
 aH (eH k t X) (0,L)=some (X.foldl (rC t k) L):=by
 have lp:∀(r j:Nat) (L:List Int),j+r=X.length→L.length≤10000+j→aH (eH k t X) ((j:Int),L)=some ((X.drop j).foldl (rC t k) L):=by
  intro r
  induction r with
  | zero=>
   intro j L hj hl
   refine aQ ?_
   unfold eH
   simp only
   rw [if_neg (by omega),List.drop_of_length_le (by omega)]
   rfl
  | succ r ih=>
   intro j L hj hl
   have hj':j<X.length:=by omega
   obtain ⟨y0,y1⟩:=hX _ (List.getElem_mem hj')
   have st:eH k t X ((j:Int),L)=some (.inl (((j+1:Nat):Int),rC t k L X[j])):=by
    unfold eH jh rC
    simp only
    rw [if_pos (by omega),fO hj',aT (by omega)]
    simp only [Option.bind_some]
    rw [uG y0 y1,Option.bind_some,zS L X[j] (by omega)]
    by_cases c1:gc t X[j]=k
    ·rw [if_pos c1]
     by_cases c2:X[j]∈L
     ·rw [decide_eq_true c2,if_neg (fun h=>h.2 c2)]
      rfl
     ·rw [decide_eq_false c2,if_pos ⟨c1,c2⟩]
      simp only [Option.bind_some,Bool.not_false,if_true]
      rw [IL (by rw [List.length_singleton];omega)]
      rfl
    ·rw [if_neg c1,if_neg (fun h=>c1 h.1)]
     rfl
   rw [bQ st,ih (j+1) _ (by omega) (by
    unfold rC
    split
    ·rw [List.length_append,List.length_singleton];omega
    ·omega),←List.getElem_cons_drop hj',List.foldl_cons]
 have:=lp X.length 0 L (by omega) (by omega)
 rw [List.drop_zero] at this
 exact this
def Ec (t:ae) (met:List Bool) (L:List Int):Prop:=met.length=t.Cells.length∧∀y:Nat,y<t.Cells.length→met[y]?=some (decide ((y:Int)∈L))
theorem q_i {t:ae} {k:Int} {z:qA} (hX:∀y∈[z.e0,z.e1,z.e2,z.e3],0≤y∧y<t.Cells.length) {L:List Int} (hL:L.length≤10000) {met:List Bool} (hm:Ec t met L):
 ∃met',aH (dM t k z) (0,met,L)=some (met',[z.e0,z.e1,z.e2,z.e3].foldl (rC t k) L)∧Ec t met' ([z.e0,z.e1,z.e2,z.e3].foldl (rC t k) L):=by
 have hX4:[z.e0,z.e1,z.e2,z.e3].length=4:=rfl
 generalize hE:[z.e0,z.e1,z.e2,z.e3]=X at hX hX4
 have lp:∀(r j:Nat) (L:List Int) (met:List Bool),j+r=4→L.length≤10000+j→Ec t met L→∃met',aH (dM t k z) ((j:Int),met,L)=some (met',(X.drop j).foldl (rC t k) L)∧Ec t met' ((X.drop j).foldl (rC t k) L):=by
  intro r
  induction r with
  | zero=>
   intro j L met hj hl hm
   rw [List.drop_of_length_le (by omega)]
   refine ⟨met,aQ ?_,hm⟩
   unfold dM
   simp only
   rw [if_neg (by omega)]
   rfl
  | succ r ih=>
   intro j L met hj hl hm
   have hj':j<X.length:=by omega
   obtain ⟨y0,y1⟩:=hX _ (List.getElem_mem hj')
   rw [←List.getElem_cons_drop hj',List.foldl_cons]
   have hst:∃met',dM t k z ((j:Int),met,L)=some (.inl (((j+1:Nat):Int),met',rC t k L X[j]))∧Ec t met' (rC t k L X[j]):=by
    unfold dM ig rC
    simp only
    rw [if_pos (by omega),hE,fO hj',aT (by omega)]
    simp only [Option.bind_some]
    generalize X[j]=y at y0 y1
    rw [uG y0 y1,Option.bind_some]
    obtain ⟨q,rfl⟩:∃q:Nat,y=(q:Int):=⟨y.toNat,by omega⟩
    have hq:q<t.Cells.length:=by omega
    have hqm:q<met.length:=by rw [hm.1];exact hq
    have hrd:rd met (q:Int)=some (decide ((q:Int)∈L)):=by rw [JA];exact hm.2 q hq
    rw [hrd]
    by_cases c1:gc t (q:Int)=k
    ·rw [if_pos c1]
     by_cases c2:(q:Int)∈L
     ·rw [decide_eq_true c2,if_neg (fun h=>h.2 c2)]
      exact ⟨met,rfl,hm⟩
     ·rw [decide_eq_false c2,if_pos ⟨c1,c2⟩]
      simp only [Option.bind_some,Bool.not_false,if_true]
      rw [IL (by rw [List.length_singleton];omega)]
      refine ⟨_,rfl,by rw [List.length_set];exact hm.1,fun y hy=>?_⟩
      rw [Int.toNat_natCast]
      by_cases e:q=y
      ·subst e
       rw [List.getElem?_set_self hqm,decide_eq_true (by simp)]
      ·rw [List.getElem?_set_ne e,hm.2 y hy]
       congr 1
       refine decide_eq_decide.2 ?_
       rw [List.mem_append,List.mem_singleton]
       exact ⟨.inl,fun h=>h.elim id fun h=>absurd h (by omega)⟩
    ·rw [if_neg c1,if_neg (fun h=>c1 h.1)]
     exact ⟨met,rfl,hm⟩
   obtain ⟨met',st,hm'⟩:=hst
   obtain ⟨XN,h1,h2⟩:=ih (j+1) (rC t k L X[j]) met' (by omega) (by
    unfold rC
    split
    ·rw [List.length_append,List.length_singleton];omega
    ·omega) hm'
   exact ⟨XN,by rw [bQ st];exact h1,h2⟩
 obtain ⟨met',h1,h2⟩:=lp 4 0 L met (by omega) (by omega) hm
 rw [List.drop_zero] at h1 h2
 exact ⟨met',h1,h2⟩
structure IB (t:ae) (k f:Int) (L:List Int) (i:Nat):Prop where
 nd:L.Nodup
 mem:∀x∈L,0≤x∧x<t.Cells.length∧gc t x=k
 fst:f∈L
 cl:∀j (h:j<L.length),j<i→∀y∈nbS t L[j],gc t y=k→y∈L
 mn:∀S:Int→Prop,S f→(∀x y,S x→y∈nbS t x→gc t y=k→S y)→∀x∈L,S x
theorem IB.len {t:ae} {k f:Int} {L:List Int} {i:Nat} (h:IB t k f L i):L.length≤t.Cells.length:=by
 have h1:=VG L t.Cells.length fun x hx=>⟨(h.mem x hx).1,(h.mem x hx).2.1⟩
 have h2:L.length=kn L:=((List.perm_ext_iff_of_nodup h.nd (IQ L)).2 fun a=>by rw [O4]).length_eq
 omega
theorem IB.step {t:ae} (hT:TB t) {k f:Int} {L:List Int} {i:Nat} (h:IB t k f L i) (hi:i<L.length) {Y:List Int} (hY:∀y,y∈Y↔y∈nbS t L[i]):IB t k f (Y.foldl (rC t k) L) (i+1):=by
 obtain ⟨l0,l1,l2⟩:=h.mem _ (List.getElem_mem hi)
 obtain ⟨_,_,n3,_⟩:=zU hT l0 l1
 obtain ⟨M,hM,_⟩:=zV (t:=t) (k:=k) Y L
 refine ⟨KU Y L h.nd,fun x hx=>?_,(vS Y L).2 (.inl h.fst),fun j hj hji y hy hg=>?_,fun S hS hc x hx=>?_⟩
 ·rcases (vS Y L).1 hx with q | ⟨q,g⟩
  ·exact h.mem x q
  ·obtain ⟨a,b⟩:=n3 x ((hY x).1 q)
   exact ⟨a,b,g⟩
 ·by_cases c:j<L.length
  ·have e:(Y.foldl (rC t k) L)[j]=L[j]:=by simp only [hM];rw [List.getElem_append_left c]
   rw [e] at hy
   by_cases c2:j<i
   ·exact (vS Y L).2 (.inl (h.cl j c c2 y hy hg))
   ·have:j=i:=by omega
    subst this
    exact (vS Y L).2 (.inr ⟨(hY y).2 hy,hg⟩)
  ·omega
 ·rcases (vS Y L).1 hx with q | ⟨q,g⟩
  ·exact h.mn S hS hc x q
  ·exact hc L[i] x (h.mn S hS hc _ (List.getElem_mem hi)) ((hY x).1 q) g
theorem IB.same {t:ae} {k f:Int} {L M:List Int} (h:IB t k f L L.length) (g:IB t k f M M.length):L.length=M.length:=by
 have sub:∀{L M:List Int},IB t k f L L.length→IB t k f M M.length→∀x∈L,x∈M:=by
  intro L M h g
  refine h.mn (·∈M) g.fst fun x y hx hy hk=>?_
  obtain ⟨j,hj,rfl⟩:=List.getElem_of_mem hx
  exact g.cl j hj hj y hy hk
 exact ((List.perm_ext_iff_of_nodup h.nd g.nd).2 fun a=>⟨sub h g a,sub g h a⟩).length_eq
theorem b_s {t:ae} (hT:TB t) {k f:Int}:∀(r i:Nat) (L:List Int),i+r=t.Cells.length→i≤L.length→IB t k f L i→∃L',aH (cO k t) ((i:Int),L)=some L'∧IB t k f L' L'.length:=by
 have hm:=hT.mul
 intro r
 induction r with
 | zero=>
  intro i L hi hl h
  have:=h.len
  have e:i=L.length:=by omega
  refine ⟨L,aQ ?_,e ▸ h⟩
  unfold cO
  simp only
  rw [if_neg (by omega)]
 | succ r ih=>
  intro i L hi hl h
  have hn:=h.len
  by_cases c:i<L.length
  ·obtain ⟨l0,l1,l2⟩:=h.mem _ (List.getElem_mem c)
   obtain ⟨n1,n2,n3,_⟩:=zU hT l0 l1
   obtain ⟨M,hM,_⟩:=zV (t:=t) (k:=k) (nbS t L[i]) L
   have st:cO k t ((i:Int),L)=some (.inl (((i+1:Nat):Int),(nbS t L[i]).foldl (rC t k) L)):=by
    unfold cO
    simp only
    rw [if_pos (by omega),fO c,Option.bind_some,n1,Option.bind_some,q_s n3 (by omega) (by omega),Option.bind_some,aT (by omega)]
   rw [bQ st]
   exact ih (i+1) _ (by omega) (by rw [hM,List.length_append];omega) (h.step hT c fun y=>Iff.rfl)
  ·have e:i=L.length:=by omega
   refine ⟨L,aQ ?_,e ▸ h⟩
   unfold cO
   simp only
   rw [if_neg (by omega)]
theorem b_i {t:ae} (hT:TB t) {k f:Int}:∀(r i:Nat) (L:List Int) (met:List Bool),i+r=t.Cells.length→i≤L.length→Ec t met L→IB t k f L i→∃L',aH (bY t k) ((i:Int),(i:Int),met,L)=some (L'.length:Int)∧IB t k f L' L'.length:=by
 have hm:=hT.mul
 intro r
 induction r with
 | zero=>
  intro i L met hi hl hM h
  have:=h.len
  have e:i=L.length:=by omega
  refine ⟨L,aQ ?_,e ▸ h⟩
  unfold bY
  simp only
  rw [if_neg (by omega),e]
 | succ r ih=>
  intro i L met hi hl hM h
  have hn:=h.len
  by_cases c:i<L.length
  ·obtain ⟨l0,l1,l2⟩:=h.mem _ (List.getElem_mem c)
   obtain ⟨n1,n2,n3,z,z1,z2⟩:=zU hT l0 l1
   obtain ⟨met',q1,q2⟩:=q_i (t:=t) (k:=k) (z:=z) (fun y hy=>n3 y ((z2 y).1 hy)) (L:=L) (by omega) hM
   obtain ⟨M,hMM,_⟩:=zV (t:=t) (k:=k) [z.e0,z.e1,z.e2,z.e3] L
   have st:bY t k ((i:Int),(i:Int),met,L)=some (.inl (((i+1:Nat):Int),((i+1:Nat):Int),met',[z.e0,z.e1,z.e2,z.e3].foldl (rC t k) L)):=by
    unfold bY
    simp only
    rw [if_pos (by omega),fO c,Option.bind_some,z1,Option.bind_some,q1,Option.bind_some,aT (by omega)]
   rw [bQ st]
   exact ih (i+1) _ met' (by omega) (by rw [hMM,List.length_append];omega) q2 (h.step hT c z2)
  ·have e:i=L.length:=by omega
   refine ⟨L,aQ ?_,e ▸ h⟩
   unfold bY
   simp only
   rw [if_neg (by omega),e]
def uj (t:ae) (k:Int) (i:Nat):Nat:=((t.Cells.take i).filter fun x=>decide (x=k)).length
theorem IU {t:ae} {k:Int} {i:Nat} (h:i<t.Cells.length):uj t k (i+1)=if t.Cells[i]=k then uj t k i+1 else uj t k i:=by
 unfold uj
 rw [List.take_succ_eq_append_getElem h,List.filter_append,List.length_append]
 by_cases c:t.Cells[i]=k<;>simp [c]
theorem cnt_le (t:ae) (k:Int) (i:Nat):uj t k i≤t.Cells.length:=by
 unfold uj
 refine Nat.le_trans (List.length_filter_le _ _) ?_
 rw [List.length_take]
 exact Nat.min_le_right _ _
theorem KW {t:ae} (hl:t.Cells.length≤144) {k:Int} {f:Nat} (hf:f<t.Cells.length) (h1:t.Cells[f]=k) (h2:∀g (h:g<f),t.Cells[g]≠k):
 aH (iE k t) ((-1),0,0)=some ((f:Int),(uj t k t.Cells.length:Int)):=by
 have q:aH (iE k t) ((if f<0 then (f:Int) else -1),(uj t k 0:Int),((0:Nat):Int))=some ((f:Int),(uj t k t.Cells.length:Int)):=by
  refine lZ (fun i:Nat=>(if f<i then (f:Int) else -1,(uj t k i:Int),(i:Int))) t.Cells.length (fun i hi=>?_) ?_
  ·have hc:=cnt_le t k i
   unfold iE jC jB
   simp only
   rw [if_pos (by omega),fO hi,Option.bind_some,aT (by omega),IU hi]
   by_cases c:t.Cells[i]=k
   ·rw [if_pos c,if_pos c,aT (by omega)]
    by_cases c2:f<i
    ·rw [if_pos c2,if_neg (by omega),if_pos (show f<i+1 by omega)]
    ·have e:i=f:=by
      rcases Nat.lt_or_ge i f with h | h
      ·exact absurd c (h2 i h)
      ·omega
     rw [if_neg c2,if_pos (by decide),if_pos (show f<i+1 by omega),e]
   ·have e:i≠f:=fun e=>c (by subst e;exact h1)
    rw [if_neg c,if_neg c,aT (by omega)]
    by_cases c2:f<i
    ·rw [if_pos c2,if_pos (show f<i+1 by omega)]
    ·rw [if_neg c2,if_neg (show ¬f<i+1 by omega)]
  ·unfold iE
   simp only
   rw [if_neg (by omega),if_pos hf]
 rw [if_neg (by omega)] at q
 exact q
theorem Rt {t:ae} (hl:t.Cells.length≤144) {k c:Int} (c0:0≤c) (c1:c≤1000):aH (eU t k) (c,0)=some (c - uj t k t.Cells.length):=by
 have q:aH (eU t k) (c - (uj t k 0:Int),((0:Nat):Int))=some (c - uj t k t.Cells.length):=by
  refine lZ (fun i:Nat=>(c - (uj t k i:Int),(i:Int))) t.Cells.length (fun i hi=>?_) ?_
  ·have hc:=cnt_le t k i
   unfold eU gZ
   simp only
   rw [if_pos (by omega),fO hi,Option.bind_some,aT (by omega),IU hi]
   by_cases e:t.Cells[i]=k
   ·rw [if_pos e,if_pos e,bT (by omega) (by omega),show c - (uj t k i:Int) - 1=c - ((uj t k i+1:Nat):Int) by omega]
   ·rw [if_neg e,if_neg e]
  ·unfold eU
   simp only
   rw [if_neg (by omega)]
 have e:(uj t k 0:Int)=0:=rfl
 rw [e,Int.sub_zero] at q
 exact q
theorem KX (l:List Int) (hl:l.length≤1048576) (k:Int):(¬k∈l∧dw l k=some (-1))∨(k∈l∧∃f,∃h:f<l.length,l[f]=k∧(∀g (h:g<f),l[g]≠k)∧dw l k=some (f:Int)):=by
 unfold dw
 rcases Ea (f:=dH l k) l (fun x=>decide (k=x)) (fun i=>(i:Int)) (by omega) (fun i hi=>by
  unfold dH
  rw [if_pos (by omega),fO hi,Option.bind_some]
  by_cases c:k=l[i]
  ·rw [if_pos c,decide_eq_true c];rfl
  ·rw [if_neg c,decide_eq_false c];rfl) (by unfold dH;rw [if_neg (by omega)]) with ⟨a,b⟩ | ⟨i,hi,a,a',b⟩
 ·rw [b]
  exact .inl ⟨fun h=>by simpa using a k h,rfl⟩
 ·rw [b]
  have e:k=l[i]:=by simpa using a
  exact .inr ⟨e ▸ List.getElem_mem hi,i,hi,e.symm,(fun g hg e=>by have:=a' g hg;simp [e] at this),rfl⟩
theorem Un {t:ae} (hT:TB t) {k x46:Int} (hk:k<x46) (k0:0≤k) (k1:k≤1000):
 (¬k∈t.Cells∧bz t x46 k=some (.inr (.inr false)))∨
 (k∈t.Cells∧∃b,di t k=some b∧bz t x46 k=if b=true then some (.inl (w64 (k+1))) else some (.inr (.inr false))):=by
 have hm:=hT.mul
 rcases KX t.Cells (by omega) k with ⟨h1,h2⟩ | ⟨h1,f,hf,h3,h4,h2⟩
 ·left
  refine ⟨h1,?_⟩
  unfold bz
  rw [if_pos hk,h2,Option.bind_some,if_pos (by decide)]
 ·right
  have hg:gc t (f:Int)=k:=by
   have:=uG (t:=t) (y:=(f:Int)) (by omega) (by omega)
   rw [fO hf] at this
   injection this with this
   rw [←this];exact h3
  have hI:IB t k (f:Int) [(f:Int)] 0:=⟨List.nodup_cons.2 ⟨List.not_mem_nil,List.nodup_nil⟩,(fun x hx=>by rw [List.mem_singleton.1 hx];exact ⟨by omega,by omega,hg⟩),by simp,(fun j h hj=>absurd hj (by omega)),fun S hS _ x hx=>by rw [List.mem_singleton.1 hx];exact hS⟩
  obtain ⟨L1,a1,a2⟩:=b_s hT t.Cells.length 0 [(f:Int)] (by omega) (by omega) hI
  have hM:Ec t ((List.replicate t.Cells.length false).set f true) [(f:Int)]:=by
   refine ⟨by simp,fun y hy=>?_⟩
   by_cases e:f=y
   ·subst e
    rw [List.getElem?_set_self (by simpa using hy),decide_eq_true (by simp)]
   ·rw [List.getElem?_set_ne e,List.getElem?_replicate,if_pos hy,decide_eq_false]
    rw [List.mem_singleton]
    omega
  obtain ⟨L2,c1,c2⟩:=b_i hT t.Cells.length 0 [(f:Int)] _ (by omega) (by omega) hM hI
  have hs:=a2.same c2
  have hl2:=c2.len
  have a1:aH (cO k t) (0,[(f:Int)])=_:=a1
  have c1:aH (bY t k) (0,0,((List.replicate t.Cells.length false).set f true),[(f:Int)])=_:=c1
  refine ⟨h1,((L1.length:Int)==(uj t k t.Cells.length:Int)),?_,?_⟩
  ·unfold di
   rw [KW (by omega) hf h3 h4]
   simp only [Option.bind_some]
   rw [a1]
   rfl
  ·have hmk:mkl 1 (t.Cells.length:Int) false=some (List.replicate t.Cells.length false):=by
    unfold mkl
    rw [if_pos (by omega),Int.toNat_natCast]
   have hrd:rd (List.replicate t.Cells.length false) (f:Int)=some false:=by
    rw [fO (by simpa using hf)];simp
   unfold bz
   rw [if_pos hk,h2,Option.bind_some,if_neg (by omega),hmk,Option.bind_some,hrd,Option.bind_some,Int.toNat_natCast,c1,Option.bind_some,Rt (by omega) (by omega) (by omega),Option.bind_some,hs]
   by_cases e:(L2.length:Int) - (uj t k t.Cells.length:Int)=0
   ·rw [if_neg (fun h=>h e),if_pos (by rw [beq_iff_eq];omega)]
   ·rw [if_pos e,if_neg (by rw [beq_iff_eq];omega)]
theorem VH {C:List Int} (h0:1≤C.length) (h1:C.length≤144):∃M,dV C=some M∧M∈C∧∀x∈C,x≤M:=by
 have lp:∀(r i:Nat) (m:Int),i+r=C.length→m∈C→(∀x∈C.take i,x≤m)→∃M,aH (bF C) (m,(i:Int))=some M∧M∈C∧∀x∈C,x≤M:=by
  intro r
  induction r with
  | zero=>
   intro i m hi hm hx
   refine ⟨m,aQ ?_,hm,fun x hxc=>hx x (by rw [List.take_of_length_le (by omega)];exact hxc)⟩
   unfold bF
   simp only
   rw [if_neg (by omega)]
  | succ r ih=>
   intro i m hi hm hx
   have hi':i<C.length:=by omega
   have st:bF C (m,(i:Int))=some (.inl (max2 m C[i],((i+1:Nat):Int))):=by
    unfold bF
    simp only
    rw [if_pos (by omega),fO hi',Option.bind_some,aT (by omega)]
   rw [bQ st]
   refine ih (i+1) _ (by omega) ?_ fun x hxc=>?_
   ·rcases jq m C[i] with q | q<;>rw [q.2]
    ·exact List.getElem_mem hi'
    ·exact hm
   ·rw [List.take_succ_eq_append_getElem hi',List.mem_append,List.mem_singleton] at hxc
    have hle:m≤max2 m C[i]∧C[i]≤max2 m C[i]:=by rcases jq m C[i] with q | q<;>rw [q.2]<;>omega
    rcases hxc with h | h
    ·have:=hx x h;omega
    ·omega
 obtain ⟨M,m1,m2,m3⟩:=lp (C.length - 1) 1 C[0] (by omega) (List.getElem_mem (by omega)) (fun x hx=>by
  rw [List.take_one,List.head?_eq_getElem?,List.getElem?_eq_getElem (by omega)] at hx
  rw [List.mem_singleton.1 hx];exact Int.le_refl _)
 refine ⟨M,?_,m2,m3⟩
 unfold dV
 have e:rd C 0=some C[0]:=fO (i:=0) (by omega)
 have m1:aH (bF C) (C[0],1)=some M:=m1
 rw [if_neg (by omega),e,Option.bind_some,m1]
 rfl
theorem VI {C:List Int} (h0:1≤C.length) (h1:C.length≤144):∃M,fD C=some M∧M∈C∧∀x∈C,M≤x:=by
 have lp:∀(r i:Nat) (m:Int),i+r=C.length→m∈C→(∀x∈C.take i,m≤x)→∃M,aH (bD C) (m,(i:Int))=some M∧M∈C∧∀x∈C,M≤x:=by
  intro r
  induction r with
  | zero=>
   intro i m hi hm hx
   refine ⟨m,aQ ?_,hm,fun x hxc=>hx x (by rw [List.take_of_length_le (by omega)];exact hxc)⟩
   unfold bD
   simp only
   rw [if_neg (by omega)]
  | succ r ih=>
   intro i m hi hm hx
   have hi':i<C.length:=by omega
   have st:bD C (m,(i:Int))=some (.inl (min2 m C[i],((i+1:Nat):Int))):=by
    unfold bD
    simp only
    rw [if_pos (by omega),fO hi',Option.bind_some,aT (by omega)]
   rw [bQ st]
   refine ih (i+1) _ (by omega) ?_ fun x hxc=>?_
   ·rcases qo m C[i] with q | q<;>rw [q.2]
    ·exact List.getElem_mem hi'
    ·exact hm
   ·rw [List.take_succ_eq_append_getElem hi',List.mem_append,List.mem_singleton] at hxc
    have hle:min2 m C[i]≤m∧min2 m C[i]≤C[i]:=by rcases qo m C[i] with q | q<;>rw [q.2]<;>omega
    rcases hxc with h | h
    ·have:=hx x h;omega
    ·omega
 obtain ⟨M,m1,m2,m3⟩:=lp (C.length - 1) 1 C[0] (by omega) (List.getElem_mem (by omega)) (fun x hx=>by
  rw [List.take_one,List.head?_eq_getElem?,List.getElem?_eq_getElem (by omega)] at hx
  rw [List.mem_singleton.1 hx];exact Int.le_refl _)
 refine ⟨M,?_,m2,m3⟩
 unfold fD
 have e:rd C 0=some C[0]:=fO (i:=0) (by omega)
 have m1:aH (bD C) (C[0],1)=some M:=m1
 rw [if_neg (by omega),e,Option.bind_some,m1]
 rfl
theorem Ru (a b:Int):qU a b=some (max2 a b):=by
 unfold qU
 rcases jq a b with h | h<;>rw [h.2]
 ·rw [if_neg (by omega)]
 ·by_cases c:a>b
  ·rw [if_pos c]
  ·rw [if_neg c];congr 1;omega
theorem O7 {t:ae} (hl:t.Cells.length≤144):(∃M,aH (dQ t) ((-1),0)=some (.inl M)∧(∀x∈t.Cells,0≤x∧x≤35)∧(∀x∈t.Cells,x≤M)∧(M=-1∨M∈t.Cells))∨
 (aH (dQ t) ((-1),0)=some (.inr (-1))∧∃x∈t.Cells,¬(0≤x∧x≤35)):=by
 have lp:∀(r i:Nat) (m:Int),i+r=t.Cells.length→(∀x∈t.Cells.take i,(0≤x∧x≤35)∧x≤m)→(m=-1∨m∈t.Cells)→
  (∃M,aH (dQ t) (m,(i:Int))=some (.inl M)∧(∀x∈t.Cells,0≤x∧x≤35)∧(∀x∈t.Cells,x≤M)∧(M=-1∨M∈t.Cells))∨(aH (dQ t) (m,(i:Int))=some (.inr (-1))∧∃x∈t.Cells,¬(0≤x∧x≤35)):=by
  intro r
  induction r with
  | zero=>
   intro i m hi hx hm
   rw [List.take_of_length_le (by omega)] at hx
   refine .inl ⟨m,aQ ?_,fun x h=>(hx x h).1,fun x h=>(hx x h).2,hm⟩
   unfold dQ
   simp only
   rw [if_neg (by omega)]
  | succ r ih=>
   intro i m hi hx hm
   have hi':i<t.Cells.length:=by omega
   by_cases c:0≤t.Cells[i]∧t.Cells[i]≤35
   ·have st:dQ t (m,(i:Int))=some (.inl (max2 m t.Cells[i],((i+1:Nat):Int))):=by
     unfold dQ
     simp only
     rw [if_pos (by omega),fO hi',Option.bind_some,FB,Option.bind_some,decide_eq_true c,if_pos rfl,Option.bind_some,Ru,Option.bind_some,aT (by omega)]
    rw [bQ st]
    refine ih (i+1) _ (by omega) (fun x hxc=>?_) ?_
    ·rw [List.take_succ_eq_append_getElem hi',List.mem_append,List.mem_singleton] at hxc
     have hle:m≤max2 m t.Cells[i]∧t.Cells[i]≤max2 m t.Cells[i]:=by rcases jq m t.Cells[i] with q | q<;>rw [q.2]<;>omega
     rcases hxc with h | h
     ·have:=hx x h;exact ⟨this.1,by omega⟩
     ·rw [h];exact ⟨c,hle.2⟩
    ·rcases jq m t.Cells[i] with q | q<;>rw [q.2]
     ·exact .inr (List.getElem_mem hi')
     ·exact hm
   ·refine .inr ⟨aQ ?_,_,List.getElem_mem hi',c⟩
    unfold dQ
    simp only
    rw [if_pos (by omega),fO hi',Option.bind_some,FB,Option.bind_some,decide_eq_false c,if_neg (by decide)]
 exact lp t.Cells.length 0 (-1) (by omega) (by simp) (.inl rfl)
theorem xP {ρ:Type} {f:Int→Option (Int ⊕ (Unit ⊕ ρ))} (K:Nat) (V:Nat→Bool) (r:ρ) (hK:K≤1048576) (h1:∀i,i<K→f (i:Int)=if V i=true then some (.inl (w64 ((i:Int)+1))) else some (.inr (.inr r))) (h2:f (K:Int)=some (.inr (.inl ()))):
 ((∀i,i<K→V i=true)∧aH f 0=some (.inl ()))∨((∃i,i<K∧V i=false)∧aH f 0=some (.inr r)):=by
 rcases Ea (f:=f) (List.range K) (fun x=>!V x) (fun _=>r) (by rw [List.length_range];omega) (fun i hi=>by
  rw [List.length_range] at hi
  rw [h1 i hi,List.getElem_range]
  cases V i<;>rfl) (by rw [List.length_range];exact h2) with ⟨a,b⟩ | ⟨i,hi,a,_,b⟩
 ·exact .inl ⟨fun i hi=>by simpa using a i (List.mem_range.2 hi),b⟩
 ·rw [List.length_range] at hi
  rw [List.getElem_range] at a
  exact .inr ⟨⟨i,hi,by simpa using a⟩,b⟩
structure VT (t:ae) (n:Nat):Prop where
 tb:TB t
 n1:1≤n
 n2:n≤36
 rg:∀x∈t.Cells,0≤x∧x<n
 al:∀k:Nat,k<n→(k:Int)∈t.Cells
 ms:dU t=some (n:Int)
 ti:lJ t=some (n:Int)
 jn:∀k:Nat,k<n→di t (k:Int)=some true
theorem BZ (t:ae):∃v,iI t=some v∧aU t=some v∧(v=true→∃n,VT t n):=by
 unfold iI aU
 simp only [FB,Bc,Option.bind_some]
 by_cases c1:1≤t.aB∧t.aB≤12
 ·by_cases c2:1≤t.High∧t.High≤12
  ·rw [decide_eq_true c1,decide_eq_true c2]
   simp only [if_true,Option.bind_some]
   have u:=Int.mul_le_mul c1.2 c2.2 (by omega) (by omega)
   have l:=Int.mul_le_mul c1.1 c2.1 (by omega) (by omega)
   rw [bT (n:=t.aB*t.High) (by omega) (by omega)]
   by_cases c3:(t.Cells.length:Int)=t.aB*t.High
   ·have hT:TB t:=⟨c1.1,c1.2,c2.1,c2.2,c3⟩
    have hm:=hT.mul
    have e:((t.Cells.length:Int) != t.aB*t.High)=false:=by simp [c3]
    rw [e]
    simp only [Bool.false_eq_true,if_false]
    obtain ⟨A,a1,a2,a3⟩:=VI (C:=t.Cells) (by omega) (by omega)
    obtain ⟨Z,z1,z2,z3⟩:=VH (C:=t.Cells) (by omega) (by omega)
    rw [a1,z1,Option.bind_some]
    simp only [Option.bind_some]
    rcases O7 (t:=t) (by omega) with ⟨M,m1,m2,m3,m4⟩ | ⟨m1,x,hx,hn⟩
    ·have hA:=m2 A a2
     have hZ:=m2 Z z2
     have hMZ:M=Z:=by
      have:=m3 Z z2
      rcases m4 with h | h
      ·omega
      ·have:=z3 M h;omega
     subst hMZ
     have hti:lJ t=some (((M+1).toNat:Nat):Int):=by
      unfold lJ
      rw [z1,Option.bind_some,bT (by omega) (by omega)]
      congr 1;omega
     rw [if_neg (by omega)]
     simp only [Option.bind_some]
     rw [decide_eq_false (by omega),if_neg (by decide),hti,Option.bind_some]
     have KY:dU t=(aH (eu M t) 0).bind fun o=>match o with
      | (.inl _)=>(some (w64 (M+1)))
      | (.inr r2)=>(some r2):=by
      unfold dU
      rw [m1]
      rfl
     generalize hK:(M+1).toNat=K at hti
     have hKM:(K:Int)=M+1:=by omega
     have hall:=xP (f:=eu M t) K (fun k=>decide ((k:Int)∈t.Cells)) (-1) (by omega) (fun i hi=>by
      unfold eu
      rw [if_pos (by omega),zS _ _ (by omega),Option.bind_some]) (by unfold eu;rw [if_neg (by omega)])
     have hB:∃B:Nat→Bool,∀k,k<K→((k:Int)∈t.Cells→di t (k:Int)=some (B k))∧bz t (K:Int) (k:Int)=if (decide ((k:Int)∈t.Cells)&&B k)=true then some (.inl (w64 ((k:Int)+1))) else some (.inr (.inr false)):=by
      have:∀k:Nat,∃b:Bool,k<K→((k:Int)∈t.Cells→di t (k:Int)=some b)∧bz t (K:Int) (k:Int)=if (decide ((k:Int)∈t.Cells)&&b)=true then some (.inl (w64 ((k:Int)+1))) else some (.inr (.inr false)):=by
       intro k
       by_cases hk:k<K
       ·rcases Un hT (k:=(k:Int)) (x46:=(K:Int)) (by omega) (by omega) (by omega) with ⟨q1,q2⟩ | ⟨q1,b,q2,q3⟩
        ·exact ⟨false,fun _=>⟨fun h=>absurd h q1,by rw [q2];simp⟩⟩
        ·exact ⟨b,fun _=>⟨fun _=>q2,by rw [q3,decide_eq_true q1,Bool.true_and]⟩⟩
       ·exact ⟨false,fun h=>absurd h hk⟩
      obtain ⟨B,hB⟩:=Classical.skolem.1 this
      exact ⟨B,hB⟩
     obtain ⟨B,hB⟩:=hB
     have himp:=xP (f:=bz t (K:Int)) K (fun k=>decide ((k:Int)∈t.Cells)&&B k) false (by omega) (fun i hi=>(hB i hi).2) (by unfold bz;rw [if_neg (by omega)])
     rcases hall with ⟨h1,h2⟩ | ⟨⟨i,hi,h1⟩,h2⟩
     ·have hms:dU t=some (K:Int):=by
       rw [KY,h2]
       show some (w64 (M+1))=_
       rw [bT (by omega) (by omega),hKM]
      rw [hms,Option.bind_some]
      have hin:∀k,k<K→(k:Int)∈t.Cells:=fun k hk=>by simpa using h1 k hk
      have hspec:=xP (f:=dR t (K:Int)) K (fun k=>B k) false (by omega) (fun i hi=>by
       unfold dR
       rw [if_pos (by omega),(hB i hi).1 (hin i hi),Option.bind_some]) (by unfold dR;rw [if_neg (by omega)])
      rcases hspec with ⟨s1,s2⟩ | ⟨⟨i,hi,s1⟩,s2⟩
      ·rcases himp with ⟨_,p2⟩ | ⟨⟨j,hj,p1⟩,_⟩
       ·rw [s2,p2]
        refine ⟨true,?_,rfl,fun _=>⟨K,hT,by omega,by omega,fun x hx=>?_,hin,hms,hti,fun k hk=>by rw [(hB k hk).1 (hin k hk),s1 k hk]⟩⟩
        ·show some (decide ((K:Int) >0))=_
         rw [decide_eq_true (by omega)]
        ·have:=m2 x hx
         have:=m3 x hx
         omega
       ·rw [decide_eq_true (hin j hj),s1 j hj] at p1
        cases p1
      ·rcases himp with ⟨p1,_⟩ | ⟨_,p2⟩
       ·have:=p1 i hi
        rw [s1,Bool.and_false] at this
        cases this
       ·rw [s2,p2]
        exact ⟨false,rfl,rfl,fun h=>by cases h⟩
     ·have hms:dU t=some (-1):=by
       rw [KY,h2]
       rfl
      rw [hms,Option.bind_some]
      have e:aH (dR t (-1)) 0=some (.inl ()):=aQ (by unfold dR;rw [if_neg (by omega)])
      rw [e]
      rcases himp with ⟨p1,_⟩ | ⟨_,p2⟩
      ·have:=p1 i hi
       rw [h1,Bool.false_and] at this
       cases this
      ·rw [p2]
       exact ⟨false,rfl,rfl,fun h=>by cases h⟩
    ·have hms:dU t=some (-1):=by
      unfold dU
      rw [m1]
      rfl
     rw [hms,Option.bind_some]
     have e:aH (dR t (-1)) 0=some (.inl ()):=aQ (by unfold dR;rw [if_neg (by omega)])
     rw [e]
     refine ⟨false,rfl,?_,fun h=>by cases h⟩
     have:=a3 x hx
     have:=z3 x hx
     by_cases ca:A<0
     ·rw [if_pos ca]
      rfl
     ·rw [if_neg ca,Option.bind_some,decide_eq_true (by omega)]
      rfl
   ·have e:((t.Cells.length:Int) != t.aB*t.High)=true:=by simp [c3]
    rw [e]
    exact ⟨false,rfl,rfl,fun h=>by cases h⟩
  ·rw [decide_eq_true c1,decide_eq_false c2]
   exact ⟨false,rfl,rfl,fun h=>by cases h⟩
 ·rw [decide_eq_false c1]
  exact ⟨false,rfl,rfl,fun h=>by cases h⟩
theorem O8:∀{L M:List Int},L.Pairwise (· < ·)→M.Pairwise (· < ·)→(∀x,x∈L↔x∈M)→L=M
 | [],[],_,_,_=>rfl
 | [],m::M,_,_,h=>by have:=(h m).2 (by simp);simp at this
 | l::L,[],_,_,h=>by have:=(h l).1 (by simp);simp at this
 | l::L,m::M,h1,h2,h=>by
  obtain ⟨a1,a2⟩:=List.pairwise_cons.1 h1
  obtain ⟨b1,b2⟩:=List.pairwise_cons.1 h2
  have e:l=m:=by
   rcases List.mem_cons.1 ((h l).1 (by simp)) with q | q
   ·exact q
   ·rcases List.mem_cons.1 ((h m).2 (by simp)) with p | p
    ·exact p.symm
    ·have:=a1 m p
     have:=b1 l q
     omega
  subst e
  congr 1
  refine O8 a2 b2 fun x=>⟨fun q=>?_,fun q=>?_⟩
  ·rcases List.mem_cons.1 ((h x).1 (List.mem_cons_of_mem _ q)) with p | p
   ·have:=a1 x q;omega
   ·exact p
  ·rcases List.mem_cons.1 ((h x).2 (List.mem_cons_of_mem _ q)) with p | p
   ·have:=b1 x q;omega
   ·exact p
section
variable {t:ae} {n:Nat} (hV:VT t n)
def PNT (t:ae) (I:Nat) (k v:Int):Prop:=∃i:Nat,i<I∧gc t (i:Int)=k∧∃y∈nbS t (i:Int),gc t y≠k∧v=gc t y
include hV
theorem IV {y:Int} (h0:0≤y) (h1:y<t.Cells.length):0≤gc t y∧gc t y<n:=by
 have:=uG h0 h1
 obtain ⟨k,rfl⟩:∃k:Nat,y=(k:Int):=⟨y.toNat,by omega⟩
 have hk:k<t.Cells.length:=by omega
 rw [fO hk] at this
 injection this with this
 rw [←this]
 exact hV.rg _ (List.getElem_mem hk)
def O9 (t:ae) (n I:Nat) (rows:List (List Int)):Prop:=rows.length=n∧∀k:Nat,k<n→(rows.getD k []).length≤4*I∧∀v,v∈rows.getD k []↔PNT t I (k:Int) v
theorem Ph {i:Nat} (hi:i<t.Cells.length) {z:qA} (hz:cZ t (i:Int)=some z) (hzm:∀y,y∈[z.e0,z.e1,z.e2,z.e3]↔y∈nbS t (i:Int)) (hzr:∀y∈nbS t (i:Int),0≤y∧y<t.Cells.length) {rows:List (List Int)} (hr:O9 t n i rows):
 ∃o,aH (aZ t (gc t (i:Int)) z) (0,rows)=some o∧O9 t n (i+1) o:=by
 have hm:=hV.tb.mul
 obtain ⟨g0,g1⟩:=IV hV (y:=(i:Int)) (by omega) (by omega)
 obtain ⟨q,hq⟩:∃q:Nat,gc t (i:Int)=(q:Int):=⟨(gc t (i:Int)).toNat,by omega⟩
 have hqn:q<n:=by omega
 have hX:∀y∈[z.e0,z.e1,z.e2,z.e3],0≤y∧y<t.Cells.length:=fun y hy=>hzr y ((hzm y).1 hy)
 have hX4:[z.e0,z.e1,z.e2,z.e3].length=4:=rfl
 rw [hq]
 have lp:∀(r j:Nat) (rw_:List (List Int)),j+r=4→rw_.length=n→(∀k,k≠q→rw_.getD k []=rows.getD k [])→(rw_.getD q []).length≤4*i+j→(∀v,v∈rw_.getD q []↔v∈rows.getD q []∨∃y∈[z.e0,z.e1,z.e2,z.e3].take j,gc t y≠(q:Int)∧v=gc t y)→
  ∃o,aH (aZ t (q:Int) z) ((j:Int),rw_)=some o∧o.length=n∧(∀k,k≠q→o.getD k []=rows.getD k [])∧(o.getD q []).length≤4* (i+1)∧∀v,v∈o.getD q []↔v∈rows.getD q []∨∃y∈[z.e0,z.e1,z.e2,z.e3],gc t y≠(q:Int)∧v=gc t y:=by
  generalize hE:[z.e0,z.e1,z.e2,z.e3]=X at hX hX4
  intro r
  induction r with
  | zero=>
   intro j rw_ hj h1 h2 h3 h4
   rw [List.take_of_length_le (by omega)] at h4
   refine ⟨rw_,aQ ?_,h1,h2,by omega,h4⟩
   unfold aZ
   simp only
   rw [if_neg (by omega)]
  | succ r ih=>
   intro j rw_ hj h1 h2 h3 h4
   have hj':j<X.length:=by omega
   obtain ⟨y0,y1⟩:=hX _ (List.getElem_mem hj')
   have hrq:rd rw_ (q:Int)=some (rw_.getD q []):=by
    rw [fO (by omega),List.getD_eq_getElem?_getD,List.getElem?_eq_getElem (by omega)];rfl
   by_cases c:gc t X[j]=(q:Int)
   ·have st:aZ t (q:Int) z ((j:Int),rw_)=some (.inl (((j+1:Nat):Int),rw_)):=by
     unfold aZ dJ
     simp only
     rw [if_pos (by omega),hE,fO hj',Option.bind_some,uG y0 y1,Option.bind_some,if_neg (fun h=>h c),aT (by omega)]
    rw [bQ st]
    refine ih (j+1) rw_ (by omega) h1 h2 (by omega) fun v=>?_
    rw [h4,List.take_succ_eq_append_getElem hj']
    simp only [List.mem_append,List.mem_singleton]
    constructor
    ·rintro (h | ⟨y,hy,h⟩)
     ·exact .inl h
     ·exact .inr ⟨y,.inl hy,h⟩
    ·rintro (h | ⟨y,hy | hy,h⟩)
     ·exact .inl h
     ·exact .inr ⟨y,hy,h⟩
     ·subst hy;exact absurd c h.1
   ·have st:aZ t (q:Int) z ((j:Int),rw_)=some (.inl (((j+1:Nat):Int),rw_.set q (rw_.getD q []++[gc t X[j]]))):=by
     unfold aZ dJ
     simp only
     rw [if_pos (by omega),hE,fO hj',Option.bind_some,uG y0 y1,Option.bind_some,if_pos c,hrq,Option.bind_some,IL (by rw [List.length_singleton];omega),Option.bind_some,Option.bind_some,aT (by omega),Int.toNat_natCast]
    have hset:∀k,(rw_.set q (rw_.getD q []++[gc t X[j]])).getD k []=if k=q then rw_.getD q []++[gc t X[j]] else rw_.getD k []:=by
     intro k
     rw [List.getD_eq_getElem?_getD,List.getElem?_set]
     by_cases e:q=k
     ·subst e
      rw [if_pos rfl,if_pos (by omega),if_pos rfl];rfl
     ·rw [if_neg e,if_neg (fun h=>e h.symm),List.getD_eq_getElem?_getD]
    rw [bQ st]
    refine ih (j+1) _ (by omega) (by rw [List.length_set];exact h1) (fun k hk=>by rw [hset,if_neg hk];exact h2 k hk) (by rw [hset,if_pos rfl,List.length_append,List.length_singleton];omega) fun v=>?_
    rw [hset,if_pos rfl,List.mem_append,List.mem_singleton,h4,List.take_succ_eq_append_getElem hj']
    simp only [List.mem_append,List.mem_singleton]
    constructor
    ·rintro ((h | ⟨y,hy,h⟩) | h)
     ·exact .inl h
     ·exact .inr ⟨y,.inl hy,h⟩
     ·exact .inr ⟨_,.inr rfl,c,h⟩
    ·rintro (h | ⟨y,hy | hy,h⟩)
     ·exact .inl (.inl h)
     ·exact .inl (.inr ⟨y,hy,h⟩)
     ·subst hy;exact .inr h.2
 obtain ⟨o,p1,p2,p3,p4,p5⟩:=lp 4 0 rows (by omega) hr.1 (fun _ _=>rfl) (by have:=(hr.2 q hqn).1;omega) (fun v=>by simp)
 refine ⟨o,p1,p2,fun k hk=>?_⟩
 by_cases e:k=q
 ·subst e
  refine ⟨p4,fun v=>?_⟩
  rw [p5,(hr.2 k hk).2]
  unfold PNT
  constructor
  ·rintro (⟨j,hj,h⟩ | ⟨y,hy,h⟩)
   ·exact ⟨j,by omega,h⟩
   ·exact ⟨i,by omega,hq,y,(hzm y).1 hy,h⟩
  ·rintro ⟨j,hj,h1,y,hy,h⟩
   by_cases c:j<i
   ·exact .inl ⟨j,c,h1,y,hy,h⟩
   ·obtain rfl:j=i:=by omega
    exact .inr ⟨y,(hzm y).2 hy,h⟩
 ·rw [p3 k e]
  refine ⟨by have:=(hr.2 k hk).1;omega,fun v=>?_⟩
  rw [(hr.2 k hk).2]
  unfold PNT
  constructor
  ·rintro ⟨j,hj,h⟩
   exact ⟨j,by omega,h⟩
  ·rintro ⟨j,hj,h1,h⟩
   by_cases c:j<i
   ·exact ⟨j,c,h1,h⟩
   ·obtain rfl:j=i:=by omega
    exact absurd (by omega) e
end
noncomputable def nrT (t:ae) (k:Int):List Int:=cmpL (sortL ((List.range t.Cells.length).flatMap fun i:Nat=>if gc t (i:Int)=k then ((nbS t (i:Int)).map (gc t)).filter fun v=>decide (v≠k) else []))
noncomputable abbrev NT2 (t:ae) (n:Nat):List (List Int):=(List.range n).map fun k:Nat=>nrT t (k:Int)
theorem Cb (t:ae) (n:Nat):(NT2 t n).length=n:=by rw [List.length_map,List.length_range]
section
variable {t:ae} {n:Nat} (hV:VT t n)
include hV
theorem SC (k:Int):(nrT t k).Pairwise (· < ·)∧∀v,v∈nrT t k↔PNT t t.Cells.length k v:=by
 unfold nrT
 refine ⟨zT _ (IC _),fun v=>?_⟩
 rw [xO,(yR _).mem_iff,List.mem_flatMap]
 unfold PNT
 constructor
 ·rintro ⟨i,hi,h⟩
  have hi:=List.mem_range.1 hi
  split at h
  ·rename_i hk
   obtain ⟨h1,h2⟩:=List.mem_filter.1 h
   obtain ⟨y,hy,rfl⟩:=List.mem_map.1 h1
   exact ⟨i,hi,hk,y,hy,by simpa using h2,rfl⟩
  ·simp at h
 ·rintro ⟨i,hi,hk,y,hy,hn,rfl⟩
  refine ⟨i,List.mem_range.2 hi,?_⟩
  rw [if_pos hk]
  exact List.mem_filter.2 ⟨List.mem_map.2 ⟨y,hy,rfl⟩,by simpa using hn⟩
theorem Pj (k:Int):∀v∈nrT t k,0≤v∧v<n:=by
 intro v hv
 obtain ⟨i,hi,_,y,hy,_,rfl⟩:=((SC hV k).2 v).1 hv
 obtain ⟨_,_,n3,_⟩:=zU hV.tb (i:=(i:Int)) (by omega) (by omega)
 exact IV hV (n3 y hy).1 (n3 y hy).2
theorem Ed (k:Int):True∧(nrT t k).Pairwise (· < ·)∧(nrT t k).length≤1000∧∀v,v∈nrT t k↔PNT t t.Cells.length k v:=by
 have h:=SC hV k
 have hn:=hV.n2
 have:=vP (nrT t k) (upto n) (h.1.imp fun h=>by omega) fun x hx=>IM.2 (Pj hV k x hx)
 rw [Eb] at this
 exact ⟨trivial,h.1,by omega,h.2⟩
theorem KZ (k:Nat):(∀x∈(NT2 t n).getD k [],0≤x)∧((NT2 t n).getD k []).length≤1048576:=by
 rw [List.getD_eq_getElem?_getD,List.getElem?_map]
 by_cases c:k<n
 ·rw [List.getElem?_range c]
  exact ⟨fun x hx=>(Pj hV _ x hx).1,by have:=(Ed hV (k:Int)).2.2.1;show (nrT t (k:Int)).length≤_;omega⟩
 ·rw [List.getElem?_eq_none (by rw [List.length_range];omega)]
  exact ⟨fun x hx=>by simp at hx,by simp⟩
theorem La:fJ t=some (NT2 t n):=by
 have hn:=hV.n2
 have hm:=hV.tb.mul
 have hmk:mkl 24 (n:Int) ([]:List Int)=some (List.replicate n []):=by
  unfold mkl
  rw [if_pos (by omega),Int.toNat_natCast]
 have h0:O9 t n 0 (List.replicate n ([]:List Int)):=by
  refine ⟨by simp,fun k hk=>?_⟩
  have e:(List.replicate n ([]:List Int)).getD k []=[]:=by
   rw [List.getD_eq_getElem?_getD,List.getElem?_replicate,if_pos hk];rfl
  rw [e]
  exact ⟨by simp,fun v=>⟨fun h=>by simp at h,fun ⟨i,hi,_⟩=>by omega⟩⟩
 have lp:∀(r i:Nat) (rows:List (List Int)),i+r=t.Cells.length→O9 t n i rows→∃o,aH (dh t) ((i:Int),rows)=some o∧O9 t n t.Cells.length o:=by
  intro r
  induction r with
  | zero=>
   intro i rows hi h
   have e:i=t.Cells.length:=by omega
   subst e
   refine ⟨rows,aQ ?_,h⟩
   unfold dh
   simp only
   rw [if_neg (by omega)]
  | succ r ih=>
   intro i rows hi h
   have hi':i<t.Cells.length:=by omega
   obtain ⟨_,_,n3,z,z1,z2⟩:=zU hV.tb (i:=(i:Int)) (by omega) (by omega)
   obtain ⟨o,p1,p2⟩:=Ph hV hi' z1 z2 n3 h
   have st:dh t ((i:Int),rows)=some (.inl (((i+1:Nat):Int),o)):=by
    unfold dh
    simp only
    rw [if_pos (by omega),uG (by omega) (by omega),Option.bind_some,z1,Option.bind_some,p1,Option.bind_some,aT (by omega)]
   rw [bQ st]
   exact ih (i+1) o (by omega) p2
 obtain ⟨rows,p1,p2⟩:=lp t.Cells.length 0 _ (by omega) h0
 have p1:aH (dh t) (0,List.replicate n ([]:List Int))=some rows:=p1
 have hrl:=p2.1
 have hgl:∀k (hk:k<rows.length),rows[k].length≤1000∧∀v,v∈rows[k]↔PNT t t.Cells.length (k:Int) v:=by
  intro k hk
  have h:=p2.2 k (by omega)
  have e:rows.getD k []=rows[k]:=by rw [List.getD_eq_getElem?_getD,List.getElem?_eq_getElem hk];rfl
  rw [e] at h
  exact ⟨by omega,h.2⟩
 have l14:aH (dI rows) (0,rows)=some (rows.map fun r=>cmpL (sortL r)):=by
  have q:aH (dI rows) (((0:Nat):Int),(rows.take 0).map (fun r=>cmpL (sortL r))++rows.drop 0)=some (rows.map fun r=>cmpL (sortL r)):=by
   refine lZ (fun k:Nat=>((k:Int),(rows.take k).map (fun r=>cmpL (sortL r))++rows.drop k)) rows.length (fun k hk=>?_) ?_
   ·have hl1:((rows.take k).map fun r=>cmpL (sortL r)).length=k:=by rw [List.length_map,List.length_take];omega
    have hd:rows.drop k=rows[k]::rows.drop (k+1):=(List.getElem_cons_drop hk).symm
    have get:∀r:List Int,rd ((rows.take k).map (fun r=>cmpL (sortL r))++r::rows.drop (k+1)) (k:Int)=some r:=by
     intro r
     rw [JA,List.getElem?_append_right (by omega),hl1,Nat.sub_self]
     rfl
    have set:∀r r':List Int,((rows.take k).map (fun r=>cmpL (sortL r))++r::rows.drop (k+1)).set k r'=(rows.take k).map (fun r=>cmpL (sortL r))++r'::rows.drop (k+1):=by
     intro r r'
     rw [List.set_append_right _ _ (by omega),hl1,Nat.sub_self]
     rfl
    have hs:=(hgl k hk).1
    have hs1:IA rows[k]=some (sortL rows[k]):=by unfold IA;rw [if_pos (by omega)]
    have hs2:OA (sortL rows[k])=some (cmpL (sortL rows[k])):=by unfold OA;rw [if_pos (by rw [Fq];omega)]
    unfold dI
    simp only
    rw [if_pos (by omega),hd,get,Option.bind_some,hs1,Option.bind_some,Int.toNat_natCast,set,get,Option.bind_some,hs2,Option.bind_some,Option.bind_some,set,aT (by omega),List.take_succ_eq_append_getElem hk,List.map_append,List.append_assoc]
    rfl
   ·unfold dI
    simp only
    rw [if_neg (by omega),List.take_of_length_le (Nat.le_refl _),List.drop_of_length_le (Nat.le_refl _),List.append_nil]
  exact q
 unfold fJ
 rw [hV.ti,Option.bind_some,hmk,Option.bind_some,p1,Option.bind_some,l14,Option.bind_some]
 congr 1
 refine List.ext_getElem (by rw [List.length_map,Cb,hrl]) fun k h1 h2=>?_
 rw [Cb] at h2
 rw [List.getElem_map,List.getElem_map,List.getElem_range]
 refine O8 (zT _ (IC _)) (Ed hV (k:Int)).2.1 fun v=>?_
 rw [xO,(yR _).mem_iff,(hgl k (by omega)).2,(Ed hV (k:Int)).2.2.2]
end
abbrev FTi:=(aG×(List Int)×Int×Int)→Option ((List Int)×Int×aG)
theorem VJ (x:aG) (F:List Int) (a b:Int):Fs (fun self:FTi=>bJ self x F a b):=by
 have k14:∀a b c,Fs (fun self:FTi=>bU self a b c):=by
  intros
  unfold bU
  exact Fs.const _
 unfold bJ
 refine Fs.ite (Fs.const _) (Fs.ite (Fs.const _) (Fs.bind (Fs.loop (fun s=>?_) _) fun _=>Fs.const _))
 obtain ⟨a1,a2,a3⟩:=s
 unfold bG
 exact Fs.ite (Fs.bind (Fs.const _) fun _=>Fs.bind (Fs.const _) fun _=>Fs.ite (k14 _ _ _) (Fs.bind (Fs.const _) fun _=>Fs.bind (Fs.const _) fun _=>Fs.bind (Fs.app _) fun _=>Fs.ite (Fs.const _) (k14 _ _ _))) (Fs.const _)
noncomputable abbrev STi:FTi:=fun s=>fK s.1 s.2.1 s.2.2.1 s.2.2.2
theorem SE (x:aG) (F:List Int) (a b:Int):fK x F a b=bJ STi x F a b:=by
 show xG _ _=_
 rw [Kz]
 ·rfl
 ·rintro ⟨x,F,a,b⟩
  exact VJ x F a b
def ftT (G:List Int) (c:Int) (m:Int):Bool:=decide (m≥(G.length:Int))||(G.getD m.toNat 0 != c)
def tgo (f:List Int→Int→Int→Int×List Int×Int) (nr:List Int) (G:List Int) (used:Int):Nat→Nat→Int→Int×List Int×Int
 | 0,_,L=>(3,[],L)
 | k+1,i,L=>if nr.all (ftT G (i:Int))=true then
  (if (f (G++[(i:Int)]) (max2 used ((i:Int)+1)) L).1=3 then tgo f nr G used k (i+1) (f (G++[(i:Int)]) (max2 used ((i:Int)+1)) L).2.2 else f (G++[(i:Int)]) (max2 used ((i:Int)+1)) L)
  else tgo f nr G used k (i+1) L
def tsr (N:List (List Int)) (most:Int):Nat→List Int→Int→Int→Int×List Int×Int
 | 0,G,used,L=>if L=0 then (5,[],0) else (0,G,L - 1)
 | m+1,G,used,L=>if L=0 then (5,[],0) else tgo (tsr N most m) (N.getD G.length []) G used (min2 most (used+1)).toNat 0 (L - 1)
def RTp (L:Int) (r:Int×List Int×Int):Prop:=0≤r.2.2∧r.2.2≤L∧(r.1=0∨(r.1=5∧r.2.1=[]∧r.2.2=0)∨(r.1=3∧r.2.1=[]))
theorem Pm {f:List Int→Int→Int→Int×List Int×Int} {nr G:List Int} {used:Int} (hf:∀G u L,0≤L→RTp L (f G u L)):∀(k i:Nat) (L:Int),0≤L→RTp L (tgo f nr G used k i L):=by
 intro k
 induction k with
 | zero=>intro i L h;exact ⟨h,Int.le_refl _,.inr (.inr ⟨rfl,rfl⟩)⟩
 | succ k ih=>
  intro i L h
  unfold tgo
  split
  ·have h1:=hf (G++[(i:Int)]) (max2 used ((i:Int)+1)) L h
   split
   ·have h2:=ih (i+1) _ h1.1
    exact ⟨h2.1,by have:=h2.2.1;have:=h1.2.1;omega,h2.2.2⟩
   ·exact h1
  ·exact ih (i+1) L h
theorem GN {N:List (List Int)} {most:Int}:∀(m:Nat) (G:List Int) (used L:Int),0≤L→RTp L (tsr N most m G used L):=by
 intro m
 induction m with
 | zero=>
  intro G used L h
  unfold tsr
  split
  ·exact ⟨Int.le_refl _,h,.inr (.inl ⟨rfl,rfl,rfl⟩)⟩
  ·rename_i hL
   exact ⟨by show 0≤L - 1;omega,by show L - 1≤L;omega,.inl rfl⟩
 | succ m ih=>
  intro G used L h
  unfold tsr
  split
  ·exact ⟨Int.le_refl _,h,.inr (.inl ⟨rfl,rfl,rfl⟩)⟩
  ·rename_i hL
   have:=Pm (f:=tsr N most m) (nr:=N.getD G.length []) (G:=G) (used:=used) (fun G u L hL=>ih G u L hL) (min2 most (used+1)).toNat 0 (L - 1) (by omega)
   exact ⟨this.1,by have:=this.2.1;omega,this.2.2⟩
theorem Rw {f:List Int→Int→Int→Int×List Int×Int} {nr G:List Int} {used:Int} {n:Nat} (hf:∀t u L,(f (G++[t]) u L).1=0→(f (G++[t]) u L).2.1.length=n):∀(k i:Nat) (L:Int),(tgo f nr G used k i L).1=0→(tgo f nr G used k i L).2.1.length=n:=by
 intro k
 induction k with
 | zero=>intro i L h;cases h
 | succ k ih=>
  intro i L
  unfold tgo
  split
  ·split
   ·exact ih _ _
   ·exact hf _ _ _
  ·exact ih _ _
theorem GR {N:List (List Int)} {most:Int}:∀(m:Nat) (G:List Int) (used L:Int),(tsr N most m G used L).1=0→(tsr N most m G used L).2.1.length=G.length+m:=by
 intro m
 induction m with
 | zero=>
  intro G used L
  unfold tsr
  split
  ·intro h;cases h
  ·intro _;rfl
 | succ m ih=>
  intro G used L
  unfold tsr
  split
  ·intro h;cases h
  ·intro h
   exact Rw (n:=G.length+(m+1)) (fun t u L h=>by rw [ih _ _ _ h,List.length_append,List.length_singleton];omega) _ _ _ h
theorem Rx {N:List (List Int)} {most:Int} (hN:∀k,∀x∈N.getD k [],0≤x):∀(m:Nat) (G:List Int) (used L:Int),(∀x∈G,x<used)→0≤used→used≤G.length→(G.length:Int)+m≤most→(tsr N most m G used L).1≠3:=by
 intro m
 induction m with
 | zero=>
  intro G used L _ _ _ _
  unfold tsr
  split
  ·decide
  ·show (0:Int)≠3
   decide
 | succ m ih=>
  intro G used L h1 h2 h3 h4
  unfold tsr
  split
  ·decide
  ·have e:(min2 most (used+1)).toNat=used.toNat+1:=by
    rcases qo most (used+1) with h | h<;>rw [h.2]<;>omega
   rw [e]
   have lp:∀(k i:Nat) (L:Int),i+k=used.toNat→(tgo (tsr N most m) (N.getD G.length []) G used (k+1) i L).1≠3:=by
    have Ry:∀(i:Nat) (L:Int),(i:Int)≤used→(tsr N most m (G++[(i:Int)]) (max2 used ((i:Int)+1)) L).1≠3:=by
     intro i L hi
     refine ih _ _ _ (fun x hx=>?_) ?_ ?_ ?_
     ·rcases List.mem_append.1 hx with h | h
      ·have:=h1 x h
       rcases jq used ((i:Int)+1) with q | q<;>rw [q.2]<;>omega
      ·rw [List.mem_singleton.1 h]
       rcases jq used ((i:Int)+1) with q | q<;>rw [q.2]<;>omega
     ·rcases jq used ((i:Int)+1) with q | q<;>rw [q.2]<;>omega
     ·rw [List.length_append,List.length_singleton]
      rcases jq used ((i:Int)+1) with q | q<;>rw [q.2]<;>omega
     ·rw [List.length_append,List.length_singleton];omega
    intro k
    induction k with
    | zero=>
     intro i L hi
     unfold tgo
     have hall:(N.getD G.length []).all (ftT G (i:Int))=true:=by
      refine List.all_eq_true.2 fun x hx=>?_
      have hx0:=hN _ x hx
      unfold ftT
      by_cases c:x≥(G.length:Int)
      ·rw [decide_eq_true c];rfl
      ·rw [decide_eq_false c,Bool.false_or]
       have:G.getD x.toNat 0≠(i:Int):=by
        rw [List.getD_eq_getElem?_getD]
        cases hg:G[x.toNat]? with
        | none=>
         have:=List.getElem?_eq_none_iff.1 hg
         omega
        | some y=>
         have hy:=h1 y (List.mem_of_getElem? hg)
         show y≠(i:Int)
         omega
       simpa using this
     rw [if_pos hall,if_neg (Ry i L (by omega))]
     exact Ry i L (by omega)
    | succ k ihk=>
     intro i L hi
     unfold tgo
     split
     ·rw [if_neg (Ry i L (by omega))]
      exact Ry i L (by omega)
     ·exact ihk (i+1) L (by omega)
   exact lp used.toNat 0 (L - 1) (by omega)
section
variable {N:List (List Int)} (hN:∀k,∀x∈N.getD k [],0≤x) (hl:∀k,(N.getD k []).length≤1048576) (hn:N.length≤1048576)
theorem nrd {k:Nat} (h:k<N.length):rd N (k:Int)=some (N.getD k []):=by
 rw [fO h,List.getD_eq_getElem?_getD,List.getElem?_eq_getElem h];rfl
include hN hl in
theorem Uo {G:List Int} (hG:G.length≤1048576) (c:Int) (k:Nat):
 bI (N.getD k []) (fun a0=>aS a0 (G.length:Int) G c)=some (!(N.getD k []).all (ftT G c)):=by
 have hp:∀x∈N.getD k [],aS x (G.length:Int) G c=some (!ftT G c x):=by
  intro x hx
  have h0:=hN k x hx
  obtain ⟨q,rfl⟩:∃q:Nat,x=(q:Int):=⟨x.toNat,by omega⟩
  unfold aS ftT
  by_cases c1:(q:Int) < (G.length:Int)
  ·have hq:q<G.length:=by omega
   rw [if_pos c1,fO hq,decide_eq_false (by omega)]
   have e:G.getD ((q:Int)).toNat 0=G[q]:=by rw [Int.toNat_natCast,List.getD_eq_getElem?_getD,List.getElem?_eq_getElem hq];rfl
   rw [e]
   simp only [Option.bind_some,Bool.false_or]
   cases h:(G[q]==c)<;>simp [bne,h]
  ·rw [if_neg c1,decide_eq_true (by omega)]
   rfl
 unfold bI eF
 generalize hR:N.getD k []=R at hp
 have hRl:R.length≤1048576:=by rw [←hR];exact hl k
 rcases Ea (f:=bH (fun a0=>aS a0 (G.length:Int) G c) R) R (fun x=>!ftT G c x) (fun i=>(i:Int)) (by omega) (fun i hi=>by
  unfold bH
  rw [if_pos (by omega),fO hi,Option.bind_some]
  show ((aS R[i] (G.length:Int) G c).bind _)=_
  rw [hp _ (List.getElem_mem hi)]
  rfl) (by unfold bH;rw [if_neg (by omega)]) with ⟨a,b⟩ | ⟨i,hi,a,_,b⟩
 ·rw [b]
  have:R.all (ftT G c)=true:=List.all_eq_true.2 fun x hx=>by simpa using a x hx
  rw [this]
  rfl
 ·rw [b]
  have:R.all (ftT G c)=false:=by
   rw [List.all_eq_false]
   exact ⟨_,List.getElem_mem hi,by simpa using a⟩
  rw [this]
  show some (decide ((i:Int)≥0))=_
  rw [decide_eq_true (by omega)]
  rfl
include hN hl hn
theorem Pn (most:Int) (hm0:0≤most) (hm:most≤1048576):∀(m:Nat) (G:List Int) (used L:Int),G.length+m=N.length→0≤L→L≤20000→0≤used→used≤1048576+G.length→
 fK ⟨N,L⟩ G used most=some ((tsr N most m G used L).2.1,(tsr N most m G used L).1,⟨N,(tsr N most m G used L).2.2⟩):=by
 intro m
 induction m with
 | zero=>
  intro G used L hG h0 h1 u0 u1
  rw [SE]
  unfold bJ tsr
  simp only
  by_cases c:L=0
  ·rw [if_pos c,if_pos c,c]
  ·rw [if_neg c,if_neg c,if_pos (by omega),bT (n:=L - 1) (by omega) (by omega)]
 | succ m ih=>
  intro G used L hG h0 h1 u0 u1
  rw [SE]
  unfold bJ tsr
  simp only
  by_cases c:L=0
  ·rw [if_pos c,if_pos c,c]
  rw [if_neg c,if_neg c,if_neg (by omega),bT (n:=L - 1) (by omega) (by omega)]
  have hk:∀i:Nat,(i< (min2 most (used+1)).toNat)↔((i:Int) <most∧(i:Int)≤used):=by
   intro i
   rcases qo most (used+1) with h | h<;>rw [h.2]<;>omega
  generalize (min2 most (used+1)).toNat=K at hk
  have lp:∀(k i:Nat) (L1:Int),i+k=K→0≤L1→L1≤20000→
   aH (bG STi G most used) (N,L1,(i:Int))=
    some (if (tgo (tsr N most m) (N.getD G.length []) G used k i L1).1=3 then .inl (N,(tgo (tsr N most m) (N.getD G.length []) G used k i L1).2.2)
     else .inr ((tgo (tsr N most m) (N.getD G.length []) G used k i L1).2.1,(tgo (tsr N most m) (N.getD G.length []) G used k i L1).1,⟨N,(tgo (tsr N most m) (N.getD G.length []) G used k i L1).2.2⟩)):=by
   intro k
   induction k with
   | zero=>
    intro i L1 hi g0 g1
    refine aQ ?_
    unfold bG
    simp only
    rw [if_neg (fun h=>by have:=(hk i).2 h;omega)]
    rfl
   | succ k ihk=>
    intro i L1 hi g0 g1
    obtain ⟨i1,i2⟩:=(hk i).1 (by omega)
    have st:bG STi G most used (N,L1,(i:Int))=if (N.getD G.length []).all (ftT G (i:Int))=true then
     (STi (⟨N,L1⟩,G++[(i:Int)],max2 used ((i:Int)+1),most)).bind fun x67=>if x67.2.1≠3 then some (.inr (.inr (x67.1,x67.2.1,x67.2.2))) else some (.inl (x67.2.2.near,x67.2.2.left,((i+1:Nat):Int)))
     else some (.inl (N,L1,((i+1:Nat):Int))):=by
     unfold bG bU
     simp only
     rw [if_pos ⟨i1,i2⟩,nrd (by omega),Option.bind_some,Uo hN hl (by omega),Option.bind_some,aT (by omega)]
     cases (N.getD G.length []).all (ftT G (i:Int)) with
     | false=>rfl
     | true=>
      rw [if_neg (by decide),if_pos rfl,IL (by simp only [List.length_nil];omega),Option.bind_some,List.nil_append,IL (by rw [List.length_singleton];omega),Option.bind_some,show ((i+1:Nat):Int)=(i:Int)+1 by omega]
    unfold tgo
    by_cases c1:(N.getD G.length []).all (ftT G (i:Int))=true
    ·rw [if_pos c1] at st
     simp only [if_pos c1]
     have hr:=ih (G++[(i:Int)]) (max2 used ((i:Int)+1)) L1 (by rw [List.length_append,List.length_singleton];omega) g0 g1 (by rcases jq used ((i:Int)+1) with q | q<;>rw [q.2]<;>omega) (by rw [List.length_append,List.length_singleton];rcases jq used ((i:Int)+1) with q | q<;>rw [q.2]<;>omega)
     have hR:=GN (N:=N) (most:=most) m (G++[(i:Int)]) (max2 used ((i:Int)+1)) L1 g0
     generalize tsr N most m (G++[(i:Int)]) (max2 used ((i:Int)+1)) L1=r at hr hR
     have hr:STi (⟨N,L1⟩,G++[(i:Int)],max2 used ((i:Int)+1),most)=some (r.2.1,r.1,⟨N,r.2.2⟩):=hr
     rw [hr,Option.bind_some] at st
     by_cases c3:r.1=3
     ·simp only [c3,ne_eq,not_true,if_false] at st
      simp only [if_pos c3]
      rw [bQ st]
      exact ihk (i+1) r.2.2 (by omega) hR.1 (by have:=hR.2.1;omega)
     ·simp only [ne_eq,c3,not_false_eq_true,if_true] at st
      simp only [if_neg c3]
      exact aQ st
    ·rw [if_neg c1] at st
     simp only [if_neg c1]
     rw [bQ st]
     exact ihk (i+1) L1 (by omega) g0 g1
  have q1:aH (bG STi G most used) (N,L - 1,0)=_:=lp K 0 (L - 1) (by omega) (by omega) (by omega)
  have hR:=Pm (f:=tsr N most m) (nr:=N.getD G.length []) (G:=G) (used:=used) (fun G u L hL=>GN m G u L hL) K 0 (L - 1) (by omega)
  rw [q1]
  generalize tgo (tsr N most m) (N.getD G.length []) G used K 0 (L - 1)=r at hR
  by_cases c3:r.1=3
  ·have:r.2.1=[]:=by
    rcases hR.2.2 with h | h | h
    ·omega
    ·omega
    ·exact h.2
   rw [if_pos c3,this,c3]
   rfl
  ·rw [if_neg c3]
   rfl
end
def usT (G:List Int):Int:=G.foldl (fun u c=>max2 u (c+1)) 0
theorem IW (G:List Int) (c:Int):usT (G++[c])=max2 (usT G) (c+1):=by
 unfold usT
 rw [List.foldl_append]
 rfl
def CPT (N:List (List Int)) (G:List Int):Prop:=∀k (h:k<G.length),0≤G[k]∧G[k]≤usT (G.take k)∧(N.getD k []).all (ftT (G.take k) G[k])=true
theorem CPT.nil {N:List (List Int)}:CPT N []:=fun k h=>absurd h (by simp)
theorem CPT.snoc {N:List (List Int)} {G:List Int} (h:CPT N G) {c:Int} (h0:0≤c) (h1:c≤usT G) (h2:(N.getD G.length []).all (ftT G c)=true):CPT N (G++[c]):=by
 intro k hk
 by_cases e:k<G.length
 ·rw [List.getElem_append_left e,List.take_append_of_le_length (by omega)]
  exact h k e
 ·have:k=G.length:=by rw [List.length_append,List.length_singleton] at hk;omega
  subst this
  rw [List.getElem_append_right (by omega),List.take_left' rfl]
  exact ⟨by simpa using h0,by simpa using h1,by simpa using h2⟩
theorem Bd {N:List (List Int)} {most:Int}:∀(m:Nat) (G:List Int) (L:Int),CPT N G→(∀x∈G,x<most)→(tsr N most m G (usT G) L).1=0→CPT N (tsr N most m G (usT G) L).2.1∧∀x∈(tsr N most m G (usT G) L).2.1,x<most:=by
 intro m
 induction m with
 | zero=>
  intro G L h hm
  unfold tsr
  split
  ·intro h;cases h
  ·intro _;exact ⟨h,hm⟩
 | succ m ih=>
  intro G L h hm
  unfold tsr
  split
  ·intro h;cases h
  ·have hk:∀i:Nat,(i< (min2 most (usT G+1)).toNat)→((i:Int) <most∧(i:Int)≤usT G):=by
    intro i
    rcases qo most (usT G+1) with h | h<;>rw [h.2]<;>omega
   generalize (min2 most (usT G+1)).toNat=K at hk
   have lp:∀(k i:Nat) (L:Int),i+k=K→(tgo (tsr N most m) (N.getD G.length []) G (usT G) k i L).1=0→
    CPT N (tgo (tsr N most m) (N.getD G.length []) G (usT G) k i L).2.1∧∀x∈(tgo (tsr N most m) (N.getD G.length []) G (usT G) k i L).2.1,x<most:=by
    intro k
    induction k with
    | zero=>intro i L _ h;cases h
    | succ k ihk=>
     intro i L hi
     obtain ⟨i1,i2⟩:=hk i (by omega)
     unfold tgo
     split
     ·rename_i hf
      rw [←IW]
      split
      ·exact ihk (i+1) _ (by omega)
      ·exact ih _ _ (h.snoc (by omega) i2 hf) fun x hx=>by
        rcases List.mem_append.1 hx with q | q
        ·exact hm x q
        ·rw [List.mem_singleton.1 q];exact i1
     ·exact ihk (i+1) L (by omega)
   exact lp K 0 (L - 1) (by omega)
theorem MK {N:List (List Int)} {most:Int}:∀(m:Nat) (G:List Int) (L:Int),(tsr N most m G (usT G) L).1=3→∀E:List Int,E.length=m→CPT N (G++E)→¬∀x∈G++E,x<most:=by
 intro m
 induction m with
 | zero=>
  intro G L
  unfold tsr
  split<;>(intro h;cases h)
 | succ m ih=>
  intro G L
  unfold tsr
  split
  ·intro h;cases h
  ·intro h3 E hE hC hx
   cases E with
   | nil=>cases hE
   | cons c E=>
    have hE2:E.length=m:=by simpa using hE
    have hc:=hC G.length (by rw [List.length_append,List.length_cons];omega)
    rw [List.getElem_append_right (by omega),List.take_left' rfl] at hc
    have hc:0≤c∧c≤usT G∧(N.getD G.length []).all (ftT G c)=true:=by simpa using hc
    have hcm:=hx c (by simp)
    obtain ⟨q,rfl⟩:∃q:Nat,c=(q:Int):=⟨c.toNat,by omega⟩
    have hk:q< (min2 most (usT G+1)).toNat:=by
     rcases qo most (usT G+1) with h | h<;>rw [h.2]<;>omega
    generalize (min2 most (usT G+1)).toNat=K at hk h3
    have lp:∀(k i:Nat) (L:Int),i+k=K→i≤q→(tgo (tsr N most m) (N.getD G.length []) G (usT G) k i L).1=3→False:=by
     intro k
     induction k with
     | zero=>intro i L hi hq;omega
     | succ k ihk=>
      intro i L hi hq
      unfold tgo
      by_cases e:i=q
      ·subst e
       rw [if_pos hc.2.2,←IW]
       have key:∀L',(tsr N most m (G++[(i:Int)]) (usT (G++[(i:Int)])) L').1=3→False:=fun L' h=>ih (G++[(i:Int)]) L' h E hE2 (by rw [List.append_assoc];exact hC) (by rw [List.append_assoc];exact hx)
       split
       ·rename_i h
        intro _
        exact key _ h
       ·rename_i h
        exact fun h'=>absurd h' h
      ·split
       ·split
        ·exact ihk (i+1) _ (by omega) (by omega)
        ·rename_i h
         exact fun h'=>absurd h' h
       ·exact ihk (i+1) L (by omega) (by omega)
    exact lp K 0 (L - 1) (by omega) (by omega) h3
theorem Lc {N:List (List Int)} {m:Int} {n:Nat} {L L':Int} (h:(tsr N m n [] 0 L).1=0) (h':(tsr N (m - 1) n [] 0 L').1=3):m - 1∈(tsr N m n [] 0 L).2.1:=by
 have s:=Bd n [] L (CPT.nil (N:=N)) (by simp) h
 have hl:=GR n [] 0 L h
 have c:=MK n [] L' h' (tsr N m n [] 0 L).2.1 (by rw [hl];simp) s.1
 by_cases e:m - 1∈(tsr N m n [] 0 L).2.1
 ·exact e
 ·exfalso
  refine c fun x hx=>?_
  have:=s.2 x hx
  have:x≠m - 1:=fun q=>e (q ▸ hx)
  omega
theorem zW (a:Int) {b:Int} (h0:0<b) (h1:b≤12):jM a b=some (a % b):=by
 have t1:=SB a h0
 have key:(a.tmod b+b) % b=a % b:=by
  rw [Int.add_emod_right]
  rcases Int.le_total 0 a with h | h
  ·rw [Int.tmod_eq_emod_of_nonneg h,Int.emod_emod]
  ·have e:a.tmod b=-((-a).tmod b):=by rw [Int.neg_tmod,Int.neg_neg]
   rw [e,Int.tmod_eq_emod_of_nonneg (show 0≤-a by omega)]
   refine Int.emod_emod_of_dvd _ (Int.dvd_refl b) ▸ ?_
   have h2:=Int.mul_ediv_add_emod (-a) b
   have h3:-((-a) % b)=a+b* ((-a) / b):=by omega
   rw [h3,Int.add_mul_emod_self_left,Int.emod_emod]
 unfold jM md
 rw [if_neg (by omega),Option.bind_some,if_neg (by omega),Option.bind_some,bT (by omega) (by omega),Int.tmod_eq_emod_of_nonneg (by omega),key]
def ixT (t:ae) (x y:Int):Int:=(y % t.High) *t.aB+x % t.aB
theorem BH {t:ae} (h:TB t) (x y:Int):0≤ixT t x y∧ixT t x y<t.Cells.length:=by
 have w0:=h.w0
 have h0:=h.h0
 have a2:=Int.emod_nonneg y (show t.High≠0 by omega)
 have a3:=Int.emod_lt_of_pos y (show 0<t.High by omega)
 have b2:=Int.emod_nonneg x (show t.aB≠0 by omega)
 have b3:=Int.emod_lt_of_pos x (show 0<t.aB by omega)
 have m1:(y % t.High) *t.aB≤(t.High - 1) *t.aB:=Int.mul_le_mul_of_nonneg_right (by omega) (by omega)
 have m0:0≤(y % t.High) *t.aB:=Int.mul_nonneg a2 (by omega)
 have m2:(t.High - 1) *t.aB=t.aB*t.High - t.aB:=by rw [Int.sub_mul,Int.one_mul,Int.mul_comm]
 have hl:=h.ln
 unfold ixT
 omega
theorem JV {t:ae} (h:TB t) (x y:Int):aJ x y t.aB t.High t.Cells=some (ixT t x y):=by
 have w0:=h.w0
 have w1:=h.w1
 have h0:=h.h0
 have h1:=h.h1
 have hm:=h.mul
 have hr:=BH h x y
 have a2:=Int.emod_nonneg y (show t.High≠0 by omega)
 have m0:0≤(y % t.High) *t.aB:=Int.mul_nonneg a2 (by omega)
 have b2:=Int.emod_nonneg x (show t.aB≠0 by omega)
 unfold ixT at hr ⊢
 unfold aJ
 rw [zW y (show 0<t.High by omega) h1,Option.bind_some,zW x (show 0<t.aB by omega) w1,Option.bind_some,bT (n:=(y % t.High) *t.aB) (by omega) (by omega),bT (by omega) (by omega)]
theorem Be {t:ae} (h:TB t) {i:Nat} (hi:i<t.Cells.length):nbS t (i:Int)=[ixT t ((i:Int) % t.aB+1) ((i:Int) / t.aB),ixT t ((i:Int) % t.aB) ((i:Int) / t.aB+1),ixT t ((i:Int) % t.aB - 1) ((i:Int) / t.aB),ixT t ((i:Int) % t.aB) ((i:Int) / t.aB - 1)]:=by
 have w0:=h.w0
 have w1:=h.w1
 have hm:=h.mul
 have b2:=Int.emod_nonneg (i:Int) (show t.aB≠0 by omega)
 have b3:=Int.emod_lt_of_pos (i:Int) (show 0<t.aB by omega)
 have d0:0≤(i:Int) / t.aB:=Int.ediv_nonneg (by omega) (by omega)
 have d1:(i:Int) / t.aB≤(i:Int):=Int.ediv_le_self _ (by omega)
 have e1:(i:Int).tmod t.aB=(i:Int) % t.aB:=Int.tmod_eq_emod_of_nonneg (by omega)
 have e2:IntKind.wrap .i64 ((i:Int).tdiv t.aB)=(i:Int) / t.aB:=by
  rw [Int.tdiv_eq_ediv_of_nonneg (by omega)]
  exact bT (by omega) (by omega)
 unfold nbS gY md dv
 rw [if_neg (by omega),if_neg (by omega)]
 simp only [Option.bind_some,GM,e1,e2]
 rw [bT (n:=(i:Int) % t.aB+1) (by omega) (by omega),bT (n:=(i:Int) / t.aB+1) (by omega) (by omega),bT (n:=(i:Int) % t.aB - 1) (by omega) (by omega),bT (n:=(i:Int) / t.aB - 1) (by omega) (by omega)]
 simp only [JV h,Option.bind_some]
 rfl
def kcl (t:ae) (k:Int):List Int:=((List.range t.Cells.length).map fun i:Nat=>(i:Int)).filter fun i=>decide (gc t i=k)
theorem qM {t:ae} {k v:Int}:v∈kcl t k↔(0≤v∧v<t.Cells.length)∧gc t v=k:=by
 unfold kcl
 rw [List.mem_filter,List.mem_map,decide_eq_true_eq]
 constructor
 ·rintro ⟨⟨i,hi,rfl⟩,h⟩
  have:=List.mem_range.1 hi
  exact ⟨⟨by omega,by omega⟩,h⟩
 ·rintro ⟨⟨h0,h1⟩,h⟩
  exact ⟨⟨v.toNat,List.mem_range.2 (by omega),by omega⟩,h⟩
theorem Ur (t:ae) (k:Int):(kcl t k).Nodup:=by
 unfold kcl
 refine List.Pairwise.filter _ ?_
 rw [List.pairwise_map]
 exact List.nodup_range.imp fun h e=>h (by omega)
theorem Rz (t:ae) (k:Int):(kcl t k).length=uj t k t.Cells.length:=by
 have e:t.Cells=(List.range t.Cells.length).map fun i:Nat=>gc t (i:Int):=by
  refine List.ext_getElem (by simp) fun i h1 h2=>?_
  rw [List.getElem_map,List.getElem_range]
  have:=uG (t:=t) (y:=(i:Int)) (by omega) (by omega)
  rw [fO h1] at this
  injection this
 unfold kcl uj
 rw [List.take_of_length_le (Nat.le_refl _)]
 conv=>rhs;rw [e]
 rw [List.filter_map,List.length_map,List.filter_map,List.length_map]
 rfl
def CNT (t:ae) (k:Int):Prop:=∀S:Int→Prop,∀u,u∈kcl t k→S u→(∀x y,x∈kcl t k→S x→y∈nbS t x→gc t y=k→S y)→∀v,v∈kcl t k→S v
def SYM (t:ae):Prop:=∀x y:Int,0≤x→x<t.Cells.length→y∈nbS t x→x∈nbS t y
theorem y8 {t:ae} (hT:TB t) (hS:SYM t) {k:Int} (hk:k∈t.Cells):∃b,di t k=some b∧(b=true↔CNT t k):=by
 have hm:=hT.mul
 rcases KX t.Cells (by omega) k with ⟨h1,_⟩ | ⟨_,f,hf,h3,h4,_⟩
 ·exact absurd hk h1
 have hg:gc t (f:Int)=k:=by
  have:=uG (t:=t) (y:=(f:Int)) (by omega) (by omega)
  rw [fO hf] at this
  injection this with this
  rw [←this];exact h3
 have hI:IB t k (f:Int) [(f:Int)] 0:=⟨List.nodup_cons.2 ⟨List.not_mem_nil,List.nodup_nil⟩,(fun x hx=>by rw [List.mem_singleton.1 hx];exact ⟨by omega,by omega,hg⟩),by simp,(fun j h hj=>absurd hj (by omega)),fun S hS _ x hx=>by rw [List.mem_singleton.1 hx];exact hS⟩
 obtain ⟨L,a1,a2⟩:=b_s hT t.Cells.length 0 [(f:Int)] (by omega) (by omega) hI
 have a1:aH (cO k t) (0,[(f:Int)])=_:=a1
 refine ⟨((L.length:Int)==(uj t k t.Cells.length:Int)),?_,?_⟩
 ·unfold di
  rw [KW (by omega) hf h3 h4]
  simp only [Option.bind_some]
  rw [a1]
  rfl
 ·have sub:∀x∈L,x∈kcl t k:=fun x hx=>by
   obtain ⟨b1,b2,b3⟩:=a2.mem x hx
   exact qM.2 ⟨⟨b1,b2⟩,b3⟩
  have hfk:(f:Int)∈kcl t k:=sub _ a2.fst
  have cl:∀x y,x∈L→y∈nbS t x→gc t y=k→y∈L:=fun x y hx hy hk=>by
   obtain ⟨j,hj,rfl⟩:=List.getElem_of_mem hx
   exact a2.cl j hj hj y hy hk
  rw [←Rz,beq_iff_eq]
  constructor
  ·intro he
   have he:L.length=(kcl t k).length:=by omega
   have all:∀v∈kcl t k,v∈L:=by
    intro v hv
    by_cases c:v∈L
    ·exact c
    ·exfalso
     have h1:=vP L ((kcl t k).erase v) a2.nd fun x hx=>(List.mem_erase_of_ne (show x≠v from fun e=>c (e ▸ hx))).2 (sub x hx)
     rw [List.length_erase_of_mem hv] at h1
     have:=List.length_pos_of_mem hv
     omega
   intro S u hu hSu hc v hv
   have hf:S (f:Int):=by
    refine Classical.byContradiction fun hn=>?_
    have:=a2.mn (fun x=>x∈kcl t k∧¬S x) ⟨hfk,hn⟩ (fun x y hx hy hk=>?_) u (all u hu)
    ·exact this.2 hSu
    ·obtain ⟨⟨x0,x1⟩,x2⟩:=qM.1 hx.1
     have yr:=(zU hT x0 x1).2.2.1 y hy
     have hyk:y∈kcl t k:=qM.2 ⟨yr,hk⟩
     exact ⟨hyk,fun hSy=>hx.2 (hc y x hyk hSy (hS x y x0 x1 hy) x2)⟩
   have:=a2.mn (fun x=>x∈kcl t k∧S x) ⟨hfk,hf⟩ (fun x y hx hy hk=>?_) v (all v hv)
   ·exact this.2
   ·obtain ⟨⟨x0,x1⟩,x2⟩:=qM.1 hx.1
    exact ⟨qM.2 ⟨(zU hT x0 x1).2.2.1 y hy,hk⟩,hc x y hx.1 hx.2 hy hk⟩
  ·intro hC
   have all:=hC (·∈L) (f:Int) hfk a2.fst fun x y _ hx hy hk=>cl x y hx hy hk
   have h1:=vP (kcl t k) L (Ur t k) all
   have h2:=vP L (kcl t k) a2.nd sub
   omega
theorem CNT.moved {t t':ae} (hT:TB t) (hT':TB t') {k:Int} {σ τ:Int→Int} (hl:t'.Cells.length=t.Cells.length)
 (s1:∀x:Int,0≤x→x<t.Cells.length→0≤σ x∧σ x<t.Cells.length∧τ (σ x)=x∧gc t' x=gc t (σ x))
 (s2:∀x:Int,0≤x→x<t.Cells.length→0≤τ x∧τ x<t.Cells.length∧σ (τ x)=x)
 (s3:∀x y:Int,0≤x→x<t.Cells.length→y∈nbS t (σ x)→τ y∈nbS t' x) (h:CNT t k):CNT t' k:=by
 intro S u hu hSu hc v hv
 have ku:∀{x},x∈kcl t' k↔(0≤x∧x<t.Cells.length)∧gc t (σ x)=k:=by
  intro x
  rw [qM,hl]
  constructor
  ·rintro ⟨hx,h⟩
   exact ⟨hx,by rw [←(s1 x hx.1 hx.2).2.2.2];exact h⟩
  ·rintro ⟨hx,h⟩
   exact ⟨hx,by rw [(s1 x hx.1 hx.2).2.2.2];exact h⟩
 obtain ⟨hur,huk⟩:=ku.1 hu
 obtain ⟨hvr,hvk⟩:=ku.1 hv
 have q1:=s1 u hur.1 hur.2
 have q2:=s1 v hvr.1 hvr.2
 have:=h (fun x=>S (τ x)) (σ u) (qM.2 ⟨⟨q1.1,q1.2.1⟩,huk⟩) (by show S (τ (σ u));rw [q1.2.2.1];exact hSu) (fun x y hx hSx hy hk=>?_) (σ v) (qM.2 ⟨⟨q2.1,q2.2.1⟩,hvk⟩)
 ·have this:S (τ (σ v)):=this
  rw [q2.2.2.1] at this
  exact this
 ·obtain ⟨⟨x0,x1⟩,x2⟩:=qM.1 hx
  obtain ⟨t0,t1,t2⟩:=s2 x x0 x1
  have yr:=(zU hT x0 x1).2.2.1 y hy
  obtain ⟨y0,y1,y2⟩:=s2 y yr.1 yr.2
  refine hc (τ x) (τ y) (ku.2 ⟨⟨t0,t1⟩,by rw [t2];exact x2⟩) hSx (s3 (τ x) y t0 t1 (by rw [t2];exact hy)) ?_
  rw [(s1 (τ y) y0 y1).2.2.2,y2]
  exact hk
theorem ML {l m:List Int} (h:l.Perm m):l.sum=m.sum:=by
 induction h with
 | nil=>rfl
 | cons x _ ih=>rw [List.sum_cons,List.sum_cons,ih]
 | swap x y l=>rw [List.sum_cons,List.sum_cons,List.sum_cons,List.sum_cons];omega
 | trans _ _ h1 h2=>exact h1.trans h2
section
variable {t:ae} (hT:TB t)
include hT
theorem Us (a b:Int):ixT t a b % t.aB=a % t.aB∧ixT t a b / t.aB=b % t.High:=by
 have w0:=hT.w0
 have b2:=Int.emod_nonneg a (show t.aB≠0 by omega)
 have b3:=Int.emod_lt_of_pos a (show 0<t.aB by omega)
 unfold ixT
 constructor
 ·rw [Int.add_comm,Int.add_mul_emod_self_right,Int.emod_emod]
 ·rw [Int.add_comm,Int.add_mul_ediv_right _ _ (by omega),Int.ediv_eq_zero_of_lt b2 b3,Int.zero_add]
theorem FD (a b c e:Int):ixT t (ixT t a b % t.aB+c) (ixT t a b / t.aB+e)=ixT t (a+c) (b+e):=by
 obtain ⟨h1,h2⟩:=Us hT a b
 rw [h1,h2]
 unfold ixT
 rw [Int.emod_add_emod,Int.emod_add_emod]
theorem zX {x:Int} (h0:0≤x) (h1:x<t.Cells.length):ixT t (x % t.aB) (x / t.aB)=x:=by
 have w0:=hT.w0
 have hl:=hT.ln
 have d0:0≤x / t.aB:=Int.ediv_nonneg h0 (by omega)
 have d1:x / t.aB<t.High:=Int.ediv_lt_of_lt_mul (by omega) (by rw [Int.mul_comm];omega)
 unfold ixT
 rw [Int.emod_emod,Int.emod_eq_of_lt d0 d1]
 have:=Int.mul_ediv_add_emod x t.aB
 rw [Int.mul_comm] at this
 exact this
theorem FH (a b:Int):nbS t (ixT t a b)=[ixT t (a+1) b,ixT t a (b+1),ixT t (a - 1) b,ixT t a (b - 1)]:=by
 obtain ⟨r0,r1⟩:=BH hT a b
 obtain ⟨k,hk⟩:∃k:Nat,ixT t a b=(k:Int):=⟨(ixT t a b).toNat,by omega⟩
 have h1:=FD hT a b 1 0
 have h2:=FD hT a b 0 1
 have h3:=FD hT a b (-1) 0
 have h4:=FD hT a b 0 (-1)
 simp only [Int.add_zero,hk,←Int.sub_eq_add_neg] at h1 h2 h3 h4
 rw [hk,Be hT (by omega),h1,h2,h3,h4]
theorem Ld:SYM t:=by
 intro x y h0 h1 hy
 obtain ⟨a,b,rfl⟩:∃a b,x=ixT t a b:=⟨_,_,(zX hT h0 h1).symm⟩
 rw [FH hT] at hy
 simp only [List.mem_cons,List.not_mem_nil,or_false] at hy
 rcases hy with rfl | rfl | rfl | rfl<;>rw [FH hT]<;>simp
def mvT (t:ae) (dx dy x:Int):Int:=ixT t (x % t.aB+dx) (x / t.aB+dy)
theorem IX (dx dy a b:Int):mvT t dx dy (ixT t a b)=ixT t (a+dx) (b+dy):=FD hT a b dx dy
theorem Bf (dx dy:Int) {x:Int} (h0:0≤x) (h1:x<t.Cells.length):mvT t (-dx) (-dy) (mvT t dx dy x)=x:=by
 obtain ⟨a,b,rfl⟩:∃a b,x=ixT t a b:=⟨_,_,(zX hT h0 h1).symm⟩
 rw [IX hT,IX hT,Int.add_neg_cancel_right,Int.add_neg_cancel_right]
theorem zY (dx dy x:Int):0≤mvT t dx dy x∧mvT t dx dy x<t.Cells.length:=BH hT _ _
theorem RD (dx dy:Int):(((List.range t.Cells.length).map fun i:Nat=>mvT t dx dy (i:Int))).Perm ((List.range t.Cells.length).map fun i:Nat=>(i:Int)):=by
 refine (List.perm_ext_iff_of_nodup ?_ ?_).2 fun x=>?_
 ·rw [List.Nodup,List.pairwise_map]
  refine List.Pairwise.imp_of_mem (fun {a b} ha hb h e=>?_) List.nodup_range
  have ha:=List.mem_range.1 ha
  have hb:=List.mem_range.1 hb
  have e2:=congrArg (mvT t (-dx) (-dy)) e
  rw [Bf hT dx dy (by omega) (by omega),Bf hT dx dy (by omega) (by omega)] at e2
  exact h (by omega)
 ·rw [List.Nodup,List.pairwise_map]
  exact List.nodup_range.imp fun h e=>h (by omega)
 ·simp only [List.mem_map,List.mem_range]
  constructor
  ·rintro ⟨i,hi,rfl⟩
   obtain ⟨r0,r1⟩:=zY hT dx dy (i:Int)
   exact ⟨(mvT t dx dy (i:Int)).toNat,by omega,by omega⟩
  ·rintro ⟨i,hi,rfl⟩
   obtain ⟨r0,r1⟩:=zY hT (-dx) (-dy) (i:Int)
   refine ⟨(mvT t (-dx) (-dy) (i:Int)).toNat,by omega,?_⟩
   have:=Bf hT (-dx) (-dy) (x:=(i:Int)) (by omega) (by omega)
   rw [Int.neg_neg,Int.neg_neg] at this
   rw [show (((mvT t (-dx) (-dy) (i:Int)).toNat:Nat):Int)=mvT t (-dx) (-dy) (i:Int) by omega]
   exact this
theorem Ut (dx dy:Int) (F:Int→Int):((List.range t.Cells.length).map fun i:Nat=>F (mvT t dx dy (i:Int))).sum=((List.range t.Cells.length).map fun i:Nat=>F (i:Int)).sum:=by
 have:=ML ((RD hT dx dy).map F)
 rw [List.map_map,List.map_map] at this
 exact this
end
structure MVT (t t':ae) (dx dy:Int):Prop where
 w:t'.aB=t.aB
 h:t'.High=t.High
 l:t'.Cells.length=t.Cells.length
 c:∀x:Int,0≤x→x<t.Cells.length→gc t' x=gc t (mvT t dx dy x)
theorem MVT.tb {t t':ae} {dx dy:Int} (hT:TB t) (h:MVT t t' dx dy):TB t':=
 ⟨by rw [h.w];exact hT.w0,by rw [h.w];exact hT.w1,by rw [h.h];exact hT.h0,by rw [h.h];exact hT.h1,by rw [h.w,h.h,h.l];exact hT.ln⟩
theorem MVT.ix {t t':ae} {dx dy:Int} (h:MVT t t' dx dy) (a b:Int):ixT t' a b=ixT t a b:=by
 unfold ixT
 rw [h.w,h.h]
theorem MVT.cnt {t t':ae} {dx dy:Int} (hT:TB t) (h:MVT t t' dx dy) {k:Int} (hc:CNT t k):CNT t' k:=by
 refine CNT.moved hT (h.tb hT) (σ:=mvT t dx dy) (τ:=mvT t (-dx) (-dy)) h.l (fun x h0 h1=>⟨(zY hT _ _ _).1,(zY hT _ _ _).2,Bf hT dx dy h0 h1,h.c x h0 h1⟩) (fun x h0 h1=>⟨(zY hT _ _ _).1,(zY hT _ _ _).2,?_⟩) (fun x y h0 h1 hy=>?_) hc
 ·have:=Bf hT (-dx) (-dy) h0 h1
  rw [Int.neg_neg,Int.neg_neg] at this
  exact this
 ·obtain ⟨a,b,rfl⟩:∃a b,x=ixT t a b:=⟨_,_,(zX hT h0 h1).symm⟩
  rw [IX hT,FH hT] at hy
  rw [←h.ix a b,FH (h.tb hT)]
  simp only [List.mem_cons,List.not_mem_nil,or_false,h.ix] at hy ⊢
  rcases hy with rfl | rfl | rfl | rfl<;>rw [IX hT]
  ·left;congr 1<;>omega
  ·right;left;congr 1<;>omega
  ·right;right;left;congr 1<;>omega
  ·right;right;right;congr 1<;>omega
theorem SG {t:ae} (hT:TB t) {n:Nat} (n1:1≤n) (n2:n≤36) (rg:∀x∈t.Cells,0≤x∧x<n) (al:∀k:Nat,k<n→(k:Int)∈t.Cells) (jn:∀k:Nat,k<n→di t (k:Int)=some true):iI t=some true:=by
 have hm:=hT.mul
 have w0:=hT.w0
 have w1:=hT.w1
 have h0:=hT.h0
 have h1:=hT.h1
 have hl:=hT.ln
 have KY:dU t=some (n:Int):=by
  rcases O7 (t:=t) (by omega) with ⟨M,m1,m2,m3,m4⟩ | ⟨_,x,hx,hn⟩
  ·have a:=m3 _ (al (n - 1) (by omega))
   have hM:M=(n:Int) - 1:=by
    rcases m4 with h | h
    ·omega
    ·have:=(rg M h).2;omega
   unfold dU
   rw [m1]
   simp only [Option.bind_some]
   rcases xP (f:=eu M t) n (fun k=>decide ((k:Int)∈t.Cells)) (-1) (by omega) (fun i hi=>by
    unfold eu
    rw [if_pos (by omega),zS _ _ (by omega),Option.bind_some]) (by unfold eu;rw [if_neg (by omega)]) with ⟨_,q⟩ | ⟨⟨i,hi,q⟩,_⟩
   ·rw [q]
    show some (w64 (M+1))=_
    rw [bT (by omega) (by omega)]
    congr 1;omega
   ·rw [decide_eq_true (al i hi)] at q
    cases q
  ·have:=rg x hx
   exact absurd ⟨this.1,by omega⟩ hn
 unfold iI
 simp only [FB,Option.bind_some]
 rw [decide_eq_true ⟨w0,w1⟩,decide_eq_true ⟨h0,h1⟩]
 simp only [if_true,Option.bind_some]
 rw [bT (n:=t.aB*t.High) (by omega) (by omega)]
 have e:((t.Cells.length:Int) != t.aB*t.High)=false:=by simp [hl]
 rw [e]
 simp only [Bool.false_eq_true,if_false]
 rw [KY,Option.bind_some]
 rcases xP (f:=dR t (n:Int)) n (fun _=>true) false (by omega) (fun i hi=>by
  unfold dR
  rw [if_pos (by omega),jn i hi,Option.bind_some]) (by unfold dR;rw [if_neg (by omega)]) with ⟨_,q⟩ | ⟨⟨i,hi,q⟩,_⟩
 ·rw [q]
  show some (decide ((n:Int) >0))=_
  rw [decide_eq_true (by omega)]
 ·cases q
theorem zZ {t:ae} {i:Nat} (hi:i<t.Cells.length):gc t (i:Int)=t.Cells[i]:=by
 have:=uG (t:=t) (y:=(i:Int)) (by omega) (by omega)
 rw [fO hi] at this
 injection this with this
 exact this.symm
theorem Po {t t':ae} {n:Nat} (hV:VT t n) {dx dy:Int} (h:MVT t t' dx dy):iI t'=some true∧VT t' n:=by
 have hT:=hV.tb
 have hT':=h.tb hT
 have hm:=hT.mul
 have n1:=hV.n1
 have n2:=hV.n2
 have rg:∀x∈t'.Cells,0≤x∧x<n:=by
  intro x hx
  obtain ⟨i,hi,rfl⟩:=List.getElem_of_mem hx
  have hl:=h.l
  rw [←zZ hi,h.c (i:Int) (by omega) (by omega)]
  exact IV hV (zY hT dx dy _).1 (zY hT dx dy _).2
 have al:∀k:Nat,k<n→(k:Int)∈t'.Cells:=by
  intro k hk
  obtain ⟨j,hj,ej⟩:=List.getElem_of_mem (hV.al k hk)
  obtain ⟨r0,r1⟩:=zY hT (-dx) (-dy) (j:Int)
  have hl:=h.l
  have hi:(mvT t (-dx) (-dy) (j:Int)).toNat<t'.Cells.length:=by omega
  have e:=zZ hi
  rw [show (((mvT t (-dx) (-dy) (j:Int)).toNat:Nat):Int)=mvT t (-dx) (-dy) (j:Int) by omega,h.c _ r0 r1] at e
  have e2:=Bf hT (-dx) (-dy) (x:=(j:Int)) (by omega) (by omega)
  rw [Int.neg_neg,Int.neg_neg] at e2
  rw [e2,zZ hj,ej] at e
  rw [e]
  exact List.getElem_mem hi
 have jn:∀k:Nat,k<n→di t' (k:Int)=some true:=by
  intro k hk
  obtain ⟨b,b1,b2⟩:=y8 hT (Ld hT) (hV.al k hk)
  rw [hV.jn k hk] at b1
  cases b1
  obtain ⟨b',c1,c2⟩:=y8 hT' (Ld hT') (al k hk)
  rw [c1,c2.2 (h.cnt hT (b2.1 rfl))]
 have ok:=SG hT' n1 n2 rg al jn
 refine ⟨ok,?_⟩
 obtain ⟨v,v1,v2,v3⟩:=BZ t'
 rw [ok] at v1
 cases v1
 obtain ⟨n',hV'⟩:=v3 rfl
 have:n'=n:=by
  have a:=(hV'.rg _ (al (n - 1) (by omega))).2
  have b:=(rg _ (hV'.al (n' - 1) (by have:=hV'.n1;omega))).2
  have:=hV'.n1
  omega
 rw [←this]
 exact hV'
theorem MM {t:ae} {n:Nat} (hV:VT t n) (hok:aU t=some true) {B:Int} (b0:1≤B) (b1:B≤20000):
 ∃o q c,jk t B=some (o,q,c)∧(c=5∨(c=0∧o.length=n∧1≤q∧q≤n∧CPT (NT2 t n) o∧(∀x∈o,x<q)∧q - 1∈o)):=by
 have hn1:=hV.n1
 have hn2:=hV.n2
 have hN:∀k,∀x∈(NT2 t n).getD k [],0≤x:=fun k=>(KZ hV k).1
 have hl:∀k,((NT2 t n).getD k []).length≤1048576:=fun k=>(KZ hV k).2
 have hlen:=Cb t n
 have himp:=La hV
 generalize NT2 t n=N at hN hl hlen himp
 have us0:usT []=0:=rfl
 have lp:∀(r m:Nat) (L:Int),m+r=n→1≤m→0≤L→L≤B→(m=1∨∃L',(tsr N ((m:Int) - 1) n [] 0 L').1=3)→
  ∃o q c,aH aV ((m:Int),N,L)=some (o,q,c)∧(c=5∨(c=0∧o.length=n∧1≤q∧q≤n∧CPT N o∧(∀x∈o,x<q)∧q - 1∈o)):=by
  intro r
  induction r with
  | zero=>
   intro m L hm m1 g0 g1 hp
   have e1:=Pn hN hl (by omega) (m:Int) (by omega) (by omega) n [] 0 L (by simp [hlen]) g0 (by omega) (by omega) (by simp)
   have hR:=GN (N:=N) (most:=(m:Int)) n [] 0 L g0
   have h3:=Rx (most:=(m:Int)) hN n [] 0 L (by simp) (by omega) (by simp) (by simp;omega)
   rcases hR.2.2 with h | ⟨h,h',_⟩ | ⟨h,h'⟩
   ·refine ⟨(tsr N (m:Int) n [] 0 L).2.1,(m:Int),0,aQ ?_,.inr ⟨rfl,?_⟩⟩
    ·unfold aV
     simp only
     rw [e1,Option.bind_some]
     simp only
     rw [if_pos h]
    ·have hs:=Bd n [] L (CPT.nil (N:=N)) (most:=(m:Int)) (by simp) (by rw [us0];exact h)
     rw [us0] at hs
     have hll:=GR n [] 0 L h
     rw [List.length_nil] at hll
     refine ⟨by omega,by omega,by omega,hs.1,hs.2,?_⟩
     rcases hp with rfl | ⟨L',hp⟩
     ·have hlt:0< (tsr N ((1:Nat):Int) n [] 0 L).2.1.length:=by omega
      have a:=hs.1 0 hlt
      have b:=hs.2 _ (List.getElem_mem hlt)
      have:(tsr N ((1:Nat):Int) n [] 0 L).2.1[0]=((1:Nat):Int) - 1:=by omega
      rw [←this]
      exact List.getElem_mem hlt
     ·exact Lc h hp
   ·refine ⟨[],0,5,aQ ?_,.inl rfl⟩
    unfold aV
    simp only
    rw [e1,Option.bind_some]
    simp only [h]
    rfl
   ·exact absurd h h3
  | succ r ih=>
   intro m L hm m1 g0 g1 hp
   have e1:=Pn hN hl (by omega) (m:Int) (by omega) (by omega) n [] 0 L (by simp [hlen]) g0 (by omega) (by omega) (by simp)
   have hR:=GN (N:=N) (most:=(m:Int)) n [] 0 L g0
   rcases hR.2.2 with h | ⟨h,h',_⟩ | ⟨h,h'⟩
   ·refine ⟨(tsr N (m:Int) n [] 0 L).2.1,(m:Int),0,aQ ?_,.inr ⟨rfl,?_⟩⟩
    ·unfold aV
     simp only
     rw [e1,Option.bind_some]
     simp only
     rw [if_pos h]
    ·have hs:=Bd n [] L (CPT.nil (N:=N)) (most:=(m:Int)) (by simp) (by rw [us0];exact h)
     rw [us0] at hs
     have hll:=GR n [] 0 L h
     rw [List.length_nil] at hll
     refine ⟨by omega,by omega,by omega,hs.1,hs.2,?_⟩
     rcases hp with rfl | ⟨L',hp⟩
     ·have hlt:0< (tsr N ((1:Nat):Int) n [] 0 L).2.1.length:=by omega
      have a:=hs.1 0 hlt
      have b:=hs.2 _ (List.getElem_mem hlt)
      have:(tsr N ((1:Nat):Int) n [] 0 L).2.1[0]=((1:Nat):Int) - 1:=by omega
      rw [←this]
      exact List.getElem_mem hlt
     ·exact Lc h hp
   ·refine ⟨[],0,5,aQ ?_,.inl rfl⟩
    unfold aV
    simp only
    rw [e1,Option.bind_some]
    simp only [h]
    rfl
   ·have st:aV ((m:Int),N,L)=some (.inl (((m+1:Nat):Int),N,(tsr N (m:Int) n [] 0 L).2.2)):=by
     unfold aV
     simp only
     rw [e1,Option.bind_some,aT (by omega)]
     simp only [h]
     rfl
    rw [bQ st]
    exact ih (m+1) _ (by omega) (by omega) hR.1 (by have:=hR.2.1;omega) (.inr ⟨L,by rw [show (((m+1:Nat):Int) - 1)=(m:Int) by omega];exact h⟩)
 obtain ⟨o,q,c,p1,p2⟩:=lp (n - 1) 1 B (by omega) (by omega) (by omega) (Int.le_refl _) (.inl rfl)
 have p1:aH aV (1,N,B)=_:=p1
 refine ⟨o,q,c,?_,p2⟩
 unfold jk
 rw [hok,Option.bind_some,if_pos rfl,Bc,Option.bind_some,decide_eq_true ⟨b0,b1⟩,if_pos rfl,himp,Option.bind_some,p1]
 rfl
theorem Pq {t:ae} {n:Nat} (hV:VT t n) {k v:Int} (h:v∈nrT t k):k∈nrT t v∧v≠k:=by
 obtain ⟨i,hi,h1,y,hy,h2,rfl⟩:=((Ed hV k).2.2.2 v).1 h
 obtain ⟨_,_,n3,_⟩:=zU hV.tb (i:=(i:Int)) (by omega) (by omega)
 obtain ⟨y0,y1⟩:=n3 y hy
 have hs:=Ld hV.tb (i:Int) y (by omega) (by omega) hy
 obtain ⟨q,rfl⟩:∃q:Nat,y=(q:Int):=⟨y.toNat,by omega⟩
 exact ⟨((Ed hV _).2.2.2 k).2 ⟨q,by omega,rfl,(i:Int),hs,(fun e=>h2 (e.symm.trans h1)),h1.symm⟩,h2⟩
theorem FI {t:ae} {n:Nat} (hV:VT t n) {G:List Int} (hl:G.length=n) (hG:CPT (NT2 t n) G) {k v:Nat} (hk:k<n) (hv:v<n) (h:(v:Int)∈nrT t (k:Int)):G.getD v 0≠G.getD k 0:=by
 have key:∀{k v:Nat},k<n→v<k→(v:Int)∈nrT t (k:Int)→G.getD v 0≠G.getD k 0:=by
  intro k v hk hvk h
  have hc:=(hG k (by omega)).2.2
  have e:(NT2 t n).getD k []=nrT t (k:Int):=by
   rw [List.getD_eq_getElem?_getD,List.getElem?_map,List.getElem?_range hk];rfl
  rw [e] at hc
  have:=List.all_eq_true.1 hc _ h
  unfold ftT at this
  rw [List.length_take,decide_eq_false (by omega),Bool.false_or,Int.toNat_natCast] at this
  have e2:(G.take k).getD v 0=G.getD v 0:=by
   rw [List.getD_eq_getElem?_getD,List.getD_eq_getElem?_getD,List.getElem?_take,if_pos hvk]
  have e3:G.getD k 0=G[k]'(by omega):=by rw [List.getD_eq_getElem?_getD,List.getElem?_eq_getElem (by omega)];rfl
  rw [e2] at this
  rw [e3]
  simpa using this
 obtain ⟨h1,h2⟩:=Pq hV h
 rcases Nat.lt_trichotomy v k with c | c | c
 ·exact key hk c h
 ·exact absurd (by omega) h2
 ·exact fun e=>key hv c h1 e.symm
theorem RF {t:ae} {n:Nat} (hV:VT t n) (h2:2≤n):∃k v:Nat,k<n∧v<n∧(v:Int)∈nrT t (k:Int):=by
 refine Classical.byContradiction fun hno=>?_
 have hT:=hV.tb
 have same:∀a b c e:Int,ixT t c e∈nbS t (ixT t a b)→gc t (ixT t c e)=gc t (ixT t a b):=by
  intro a b c e hm
  refine Classical.byContradiction fun hne=>hno ?_
  obtain ⟨x0,x1⟩:=BH hT a b
  obtain ⟨y0,y1⟩:=BH hT c e
  obtain ⟨p0,p1⟩:=IV hV x0 x1
  obtain ⟨q0,q1⟩:=IV hV y0 y1
  refine ⟨(gc t (ixT t a b)).toNat,(gc t (ixT t c e)).toNat,by omega,by omega,?_⟩
  rw [show (((gc t (ixT t a b)).toNat:Nat):Int)=gc t (ixT t a b) by omega,show (((gc t (ixT t c e)).toNat:Nat):Int)=gc t (ixT t c e) by omega]
  refine ((Ed hV _).2.2.2 _).2 ⟨(ixT t a b).toNat,by omega,?_,ixT t c e,?_,hne,rfl⟩
  ·rw [show (((ixT t a b).toNat:Nat):Int)=ixT t a b by omega]
  ·rw [show (((ixT t a b).toNat:Nat):Int)=ixT t a b by omega];exact hm
 have row:∀(a:Nat) (b:Int),gc t (ixT t (a:Int) b)=gc t (ixT t 0 b):=by
  intro a b
  induction a with
  | zero=>rfl
  | succ a ih=>
   rw [←ih]
   have:=same (a:Int) b ((a:Int)+1) b (by rw [FH hT];simp)
   rw [show ((a+1:Nat):Int)=(a:Int)+1 by omega]
   exact this
 have col:∀b:Nat,gc t (ixT t 0 (b:Int))=gc t (ixT t 0 0):=by
  intro b
  induction b with
  | zero=>rfl
  | succ b ih=>
   rw [←ih]
   have:=same 0 (b:Int) 0 ((b:Int)+1) (by rw [FH hT];simp)
   rw [show ((b+1:Nat):Int)=(b:Int)+1 by omega]
   exact this
 have all:∀x:Int,0≤x→x<t.Cells.length→gc t x=gc t (ixT t 0 0):=by
  intro x h0 h1
  have w0:=hT.w0
  have e:=zX hT h0 h1
  have b2:=Int.emod_nonneg x (show t.aB≠0 by omega)
  have d0:0≤x / t.aB:=Int.ediv_nonneg h0 (by omega)
  have c1:gc t (ixT t 0 (x / t.aB))=gc t (ixT t 0 0):=by
   have:=col (x / t.aB).toNat
   rw [show (((x / t.aB).toNat:Nat):Int)=x / t.aB by omega] at this
   exact this
  have:=(row (x % t.aB).toNat (x / t.aB)).trans c1
  rw [show (((x % t.aB).toNat:Nat):Int)=x % t.aB by omega,e] at this
  exact this
 obtain ⟨i,hi,e0⟩:=List.getElem_of_mem (hV.al 0 (by omega))
 obtain ⟨j,hj,e1⟩:=List.getElem_of_mem (hV.al 1 (by omega))
 have a:=all (i:Int) (by omega) (by omega)
 have b:=all (j:Int) (by omega) (by omega)
 rw [zZ hi,e0] at a
 rw [zZ hj,e1] at b
 omega
def mvP (t:ae) (dx dy:Int) (m:Nat):List Int:=(List.range m).map fun i:Nat=>gc t (mvT t (-dx) (-dy) (i:Int))
theorem Le (t:ae) (dx dy:Int) (m:Nat):(mvP t dx dy m).length=m:=by
 unfold mvP
 rw [List.length_map,List.length_range]
theorem Pv (t:ae) (dx dy:Int) (m:Nat):mvP t dx dy (m+1)=mvP t dx dy m++[gc t (mvT t (-dx) (-dy) (m:Int))]:=by
 unfold mvP
 rw [List.range_succ,List.map_append]
 rfl
theorem VK {t:ae} (hT:TB t) {dx dy:Int} (x0:-20000≤dx) (x1:dx≤20000) (y0:-20000≤dy) (y1:dy≤20000) {W:Nat} (hW:t.aB=W) {y:Nat} (hy:(y:Int) <t.High):
 aH (gB dx dy t (y:Int)) (0,mvP t dx dy (y*W))=some (mvP t dx dy ((y+1) *W)):=by
 have w1:=hT.w1
 have w0:=hT.w0
 have h1:=hT.h1
 have key:aH (gB dx dy t (y:Int)) ((fun j:Nat=>((j:Int),mvP t dx dy (y*W+j))) 0)=some (mvP t dx dy ((y+1) *W)):=by
  refine lZ (fun j:Nat=>((j:Int),mvP t dx dy (y*W+j))) W (fun j hj=>?_) ?_
  ·unfold gB
   dsimp only
   have hr:=BH hT ((j:Int) - dx) ((y:Int) - dy)
   have hyW:y*W≤12*12:=Nat.mul_le_mul (by omega) (by omega)
   have e1:((y*W+j:Nat):Int) % t.aB=(j:Int):=by
    rw [hW,Int.natCast_add,Int.natCast_mul,Int.mul_comm (y:Int) (W:Int),Int.add_comm,Int.add_mul_emod_self_left]
    exact Int.emod_eq_of_lt (by omega) (by omega)
   have e2:((y*W+j:Nat):Int) / t.aB=(y:Int):=by
    rw [hW,Int.natCast_add,Int.natCast_mul,Int.mul_comm (y:Int) (W:Int),Int.add_comm,Int.add_mul_ediv_left _ _ (by omega),Int.ediv_eq_zero_of_lt (by omega) (by omega),Int.zero_add]
   have e3:mvT t (-dx) (-dy) ((y*W+j:Nat):Int)=ixT t ((j:Int) - dx) ((y:Int) - dy):=by
    unfold mvT
    rw [e1,e2]
    rfl
   rw [if_pos (by omega),bT (n:=(j:Int) - dx) (by omega) (by omega),bT (n:=(y:Int) - dy) (by omega) (by omega),GM,JV hT,Option.bind_some,uG hr.1 hr.2,Option.bind_some,IL (by rw [Le,List.length_singleton];omega),Option.bind_some,aT (by omega),show y*W+(j+1)=y*W+j+1 by omega,Pv,e3]
  ·unfold gB
   dsimp only
   rw [if_neg (by omega),Nat.succ_mul]
 exact key
theorem Px {t:ae} (hT:TB t) {dx dy:Int} (x0:-20000≤dx) (x1:dx≤20000) (y0:-20000≤dy) (y1:dy≤20000):
 ∃t',jv t dx dy=some t'∧MVT t t' (-dx) (-dy):=by
 have w1:=hT.w1
 have w0:=hT.w0
 have h0:=hT.h0
 have h1:=hT.h1
 have hm:=hT.mul
 have ln:=hT.ln
 obtain ⟨W,hW⟩:∃W:Nat,t.aB=(W:Int):=⟨t.aB.toNat,by omega⟩
 obtain ⟨H,hH⟩:∃H:Nat,t.High=(H:Int):=⟨t.High.toNat,by omega⟩
 have hN:t.Cells.length=H*W:=by
  have:(t.Cells.length:Int)=((H*W:Nat):Int):=by rw [ln,hW,hH,Int.natCast_mul,Int.mul_comm]
  omega
 have key:aH (jg dx dy t) ((fun y:Nat=>((y:Int),mvP t dx dy (y*W))) 0)=some (mvP t dx dy (H*W)):=by
  refine lZ (fun y:Nat=>((y:Int),mvP t dx dy (y*W))) H (fun y hy=>?_) ?_
  ·unfold jg
   dsimp only
   rw [if_pos (by omega),VK hT x0 x1 y0 y1 hW (by omega),Option.bind_some,aT (by omega)]
  ·unfold jg
   dsimp only
   rw [if_neg (by omega)]
 refine ⟨⟨t.aB,t.High,mvP t dx dy (H*W)⟩,?_,rfl,rfl,by show (mvP t dx dy (H*W)).length=_;rw [Le,hN],fun x x2 x3=>?_⟩
 ·unfold jv
  have e:((fun y:Nat=>((y:Int),mvP t dx dy (y*W))) 0)=((0:Int),([]:List Int)):=by
   dsimp only
   rw [Nat.zero_mul]
   rfl
  rw [e] at key
  rw [key,Option.bind_some]
 ·obtain ⟨i,rfl⟩:∃i:Nat,x=(i:Int):=⟨x.toNat,by omega⟩
  have hi:i<H*W:=by omega
  show (mvP t dx dy (H*W)).getD (i:Int).toNat (-1)=_
  unfold mvP
  rw [Int.toNat_natCast,List.getD_eq_getElem?_getD,List.getElem?_map,List.getElem?_range hi]
  rfl
def gT (t:ae) (x c e:Int):Int:=gc t (ixT t (x % t.aB+c) (x / t.aB+e))
theorem SH {t t':ae} (hT:TB t) {dx dy:Int} (h:MVT t t' dx dy) (x c e:Int):gT t' x c e=gT t (mvT t dx dy x) c e:=by
 unfold gT
 have hr:=BH hT (x % t.aB+c) (x / t.aB+e)
 rw [h.w,h.ix,h.c _ hr.1 hr.2,IX hT]
 unfold mvT
 rw [FD hT,show x % t.aB+c+dx=x % t.aB+dx+c by omega,show x / t.aB+e+dy=x / t.aB+dy+e by omega]
def jlT (t:ae) (x:Int):Int:=(if gT t x 1 0≠gT t x 0 0 then 1 else 0)+(if gT t x 0 1≠gT t x 0 0 then 1 else 0)
def cjT (t:ae) (x:Int):Int:=if gT t x 0 0≠gT t x 1 0∧(gT t x 1 0≠gT t x 1 1∧(gT t x 1 1≠gT t x 0 1∧gT t x 0 1≠gT t x 0 0)) then 1 else 0
def smT (F:Int→Int) (m:Nat):Int:=((List.range m).map fun i:Nat=>F (i:Int)).sum
theorem Ee (F:Int→Int) (m:Nat):smT F (m+1)=smT F m+F (m:Int):=by
 unfold smT
 rw [List.range_succ,List.map_append,List.sum_append]
 simp
theorem Ef {F:Int→Int} (h:∀x,0≤F x∧F x≤2):∀m,0≤smT F m∧smT F m≤2*m
 | 0=>by unfold smT;simp
 | m+1=>by
  have:=Ef h m
  have:=h (m:Int)
  rw [Ee]
  omega
theorem Py (t:ae) (x:Int):0≤jlT t x∧jlT t x≤2:=by
 unfold jlT
 split<;>split<;>omega
theorem Pz (t:ae) (x:Int):0≤cjT t x∧cjT t x≤2:=by
 unfold cjT
 split<;>omega
theorem SI {t t':ae} (hT:TB t) {dx dy:Int} (h:MVT t t' dx dy) {F F':Int→Int} (hF:∀x,F' x=F (mvT t dx dy x)):smT F' t'.Cells.length=smT F t.Cells.length:=by
 unfold smT
 rw [h.l,←Ut hT dx dy F]
 exact congrArg _ (List.map_congr_left fun i _=>hF _)
theorem VL {t t':ae} (hT:TB t) {dx dy:Int} (h:MVT t t' dx dy) (x:Int):jlT t' x=jlT t (mvT t dx dy x):=by
 unfold jlT
 simp only [SH hT h]
theorem VM {t t':ae} (hT:TB t) {dx dy:Int} (h:MVT t t' dx dy) (x:Int):cjT t' x=cjT t (mvT t dx dy x):=by
 unfold cjT
 simp only [SH hT h]
theorem RG {t:ae} (hT:TB t) {i:Nat} (hi:i<t.Cells.length):gT t (i:Int) 0 0=gc t (i:Int):=by
 unfold gT
 rw [Int.add_zero,Int.add_zero,zX hT (by omega) (by omega)]
theorem PD {t:ae} (hT:TB t) (hok:aU t=some true):iZ t=some (smT (jlT t) t.Cells.length,0):=by
 have hm:=hT.mul
 unfold iZ
 rw [hok,Option.bind_some,if_pos rfl]
 have key:aH (iL t) ((fun i:Nat=>(smT (jlT t) i,(i:Int))) 0)=some (smT (jlT t) t.Cells.length):=by
  refine lZ (fun i:Nat=>(smT (jlT t) i,(i:Int))) t.Cells.length (fun i hi=>?_) ?_
  ·unfold iL
   dsimp only
   have hb:=Ef (Py t) i
   obtain ⟨a,b,c,e,h1,h2,h3⟩:=FC hT hi
   have hn:=Be hT hi
   unfold nbS at hn
   rw [h1] at hn
   simp only [Option.getD_some,List.cons.injEq,and_true] at hn
   have hA:gc t a=gT t (i:Int) 1 0:=by unfold gT;rw [hn.1,Int.add_zero]
   have hB:gc t b=gT t (i:Int) 0 1:=by unfold gT;rw [hn.2.1,Int.add_zero]
   have ra:=h3 a (by simp)
   have rb:=h3 b (by simp)
   rw [if_pos (by omega),uG (by omega) (by omega),Option.bind_some,h2,Option.bind_some]
   have inner:aH (fM t (gc t (i:Int)) ⟨a,c,b,e⟩) (smT (jlT t) i,0)=some (smT (jlT t) (i+1)):=by
    have k1:∀(j:Nat) (s v:Int),-1000≤s→s≤1000→j<2→rd ([a,b]:List Int) (j:Int)=some v→0≤v→v<t.Cells.length→fM t (gc t (i:Int)) ⟨a,c,b,e⟩ (s,(j:Int))=some (.inl (s+(if gc t v≠gT t (i:Int) 0 0 then 1 else 0),((j+1:Nat):Int))):=by
     intro j s v s0 s1 hj hv v0 v1
     unfold fM iq
     dsimp only
     rw [if_pos (by simp only [List.length_cons,List.length_nil];omega),hv,Option.bind_some,uG v0 v1,Option.bind_some,RG hT hi]
     by_cases q:gc t v≠gc t (i:Int)
     ·rw [if_pos q,if_pos q,aT (by omega),bT (by omega) (by omega)]
     ·rw [if_neg q,if_neg q,aT (by omega),Int.add_zero]
    have d0:-1000≤(if gc t a≠gT t (i:Int) 0 0 then (1:Int) else 0)∧(if gc t a≠gT t (i:Int) 0 0 then (1:Int) else 0)≤1:=by split<;>omega
    refine (bQ (k1 0 (smT (jlT t) i) a (by omega) (by omega) (by omega) rfl ra.1 ra.2)).trans ((bQ (k1 1 _ b (by omega) (by omega) (by omega) rfl rb.1 rb.2)).trans ?_)
    refine aQ ?_
    unfold fM
    dsimp only
    rw [if_neg (by simp only [List.length_cons,List.length_nil];omega),Ee,Int.add_assoc,hA,hB]
    rfl
   rw [inner,Option.bind_some,aT (by omega)]
  ·unfold iL
   dsimp only
   rw [if_neg (by omega)]
 have e:((fun i:Nat=>(smT (jlT t) i,(i:Int))) 0)=((0:Int),(0:Int)):=rfl
 rw [e] at key
 rw [key,Option.bind_some]
theorem JW {t:ae} (hT:TB t) (x y:Int):jU t x y=some (gc t (ixT t x y)):=by
 have hr:=BH hT x y
 have h:=JV hT x y
 unfold aJ at h
 have w0:=hT.w0
 have w1:=hT.w1
 have h0:=hT.h0
 have h1:=hT.h1
 unfold jU
 rw [zW y (show 0<t.High by omega) h1,Option.bind_some,zW x (show 0<t.aB by omega) w1,Option.bind_some] at h ⊢
 rw [Option.some.inj h,uG hr.1 hr.2,Option.bind_some]
theorem PE {t:ae} (hT:TB t) (hok:aU t=some true):ja t=some (smT (cjT t) t.Cells.length,0):=by
 have hm:=hT.mul
 have w0:=hT.w0
 have w1:=hT.w1
 unfold ja
 rw [hok,Option.bind_some,if_pos rfl]
 have key:aH (iM t) ((fun i:Nat=>(smT (cjT t) i,(i:Int))) 0)=some (smT (cjT t) t.Cells.length):=by
  refine lZ (fun i:Nat=>(smT (cjT t) i,(i:Int))) t.Cells.length (fun i hi=>?_) ?_
  ·have b2:=Int.emod_nonneg (i:Int) (show t.aB≠0 by omega)
   have b3:=Int.emod_lt_of_pos (i:Int) (show 0<t.aB by omega)
   have d0:0≤(i:Int) / t.aB:=Int.ediv_nonneg (by omega) (by omega)
   have d1:(i:Int) / t.aB≤(i:Int):=Int.ediv_le_self _ (by omega)
   have e1:(i:Int).tmod t.aB=(i:Int) % t.aB:=Int.tmod_eq_emod_of_nonneg (by omega)
   have e2:IntKind.wrap .i64 ((i:Int).tdiv t.aB)=(i:Int) / t.aB:=by
    rw [Int.tdiv_eq_ediv_of_nonneg (by omega)]
    exact bT (by omega) (by omega)
   have hb:=Ef (Pz t) i
   unfold iM md dv iw
   dsimp only
   rw [if_pos (by omega),if_neg (by omega),if_neg (by omega)]
   simp only [Option.bind_some,e1,e2]
   rw [bT (n:=(i:Int) % t.aB+1) (by omega) (by omega),bT (n:=(i:Int) / t.aB+1) (by omega) (by omega)]
   simp only [JW hT,Option.bind_some]
   rw [aT (by omega),Ee]
   generalize smT (cjT t) i=S at hb ⊢
   unfold cjT gT
   simp only [Int.add_zero]
   split
   ·rw [bT (by omega) (by omega)]
   ·rw [Int.add_zero]
  ·unfold iM
   dsimp only
   rw [if_neg (by omega)]
 have e:((fun i:Nat=>(smT (cjT t) i,(i:Int))) 0)=((0:Int),(0:Int)):=rfl
 rw [e] at key
 rw [key,Option.bind_some]
theorem RH {seen:List Int} (hnd:seen.Nodup) (hsl:seen.length≤1000) {cells:List Int} {i:Nat} (hi:i<cells.length) (hm:cells[i]∈seen) {out:List Int} (ho:out.length≤1000):
 Ev (aH (kZ cells (i:Int) seen) (0,out)) (fun o=>o.length=out.length+1):=by
 refine Ev.loop (fun s:Int×List Int=>∃k:Nat,s.1=(k:Int)∧k≤seen.length∧((s.2.length=out.length∧∀j,j<k→seen[j]?≠some cells[i])∨(s.2.length=out.length+1∧∃j,j<k∧seen[j]?=some cells[i]))) (fun s=>((seen.length:Int) - s.1).toNat) (fun s hI=>?_) ⟨0,rfl,by omega,.inl ⟨rfl,fun j hj=>absurd hj (by omega)⟩⟩
 rcases s with ⟨x,o⟩
 obtain ⟨k,e,hk,hc⟩:=hI
 dsimp only at e hc
 subst e
 unfold kZ jf
 dsimp only
 by_cases q:(k:Int) < (seen.length:Int)
 ·have hk':k<seen.length:=by omega
  rw [if_pos q,fO hk',Option.bind_some,fO hi,Option.bind_some]
  by_cases d:seen[k]=cells[i]
  ·rw [if_pos d]
   have hol:o.length=out.length:=by
    rcases hc with hc | ⟨_,j,hj,hc⟩
    ·exact hc.1
    ·rw [List.getElem?_eq_getElem (by omega)] at hc
     exact absurd ((Option.some.inj hc).trans d.symm) (List.pairwise_iff_getElem.1 hnd j k (by omega) hk' hj)
   refine Ev.bind (Ev.apd (by rw [List.length_singleton];omega)) fun y hy=>Ev.ret ?_
   subst hy
   refine ⟨⟨k+1,aT (by omega),by omega,.inr ⟨by rw [List.length_append,List.length_singleton];omega,k,by omega,by rw [List.getElem?_eq_getElem hk',d]⟩⟩,?_⟩
   rw [aT (by omega)]
   omega
  ·rw [if_neg d]
   refine Ev.ret ⟨⟨k+1,aT (by omega),by omega,?_⟩,?_⟩
   ·rcases hc with ⟨h1,h2⟩ | ⟨h1,j,hj,h2⟩
    ·refine .inl ⟨h1,fun j hj=>?_⟩
     by_cases z:j=k
     ·subst z
      rw [List.getElem?_eq_getElem hk']
      exact fun h=>d (Option.some.inj h)
     ·exact h2 j (by omega)
    ·exact .inr ⟨h1,j,by omega,h2⟩
   ·rw [aT (by omega)]
    omega
 ·rw [if_neg q]
  refine Ev.ret ?_
  rcases hc with ⟨h1,h2⟩ | ⟨h1,_⟩
  ·obtain ⟨j,hj,e⟩:=List.getElem_of_mem hm
   exact absurd (by rw [List.getElem?_eq_getElem hj,e]) (h2 j (by omega))
  ·exact h1
theorem RI {cells:List Int} (hl:cells.length≤100):Ev (lG cells) (fun o=>o.length=cells.length):=by
 unfold lG
 refine Ev.bind (P:=fun o=>o.length=cells.length) (Ev.loop (fun s:Int×List Int×List Int=>∃i:Nat,s.1=(i:Int)∧i≤cells.length∧s.2.1.Nodup∧s.2.1.length≤i∧s.2.2.length=i) (fun s=>((cells.length:Int) - s.1).toNat) (fun s hI=>?_) ⟨0,rfl,by omega,List.nodup_nil,by simp,rfl⟩) fun o ho=>Ev.ret ho
 rcases s with ⟨x,seen,out⟩
 obtain ⟨i,e,hi,h1,h2,h3⟩:=hI
 dsimp only at e h1 h2 h3
 subst e
 unfold oJ
 dsimp only
 by_cases q:(i:Int) < (cells.length:Int)
 ·have hi':i<cells.length:=by omega
  have fin:∀{se:List Int},se.Nodup→se.length≤i+1→cells[i]∈se→Ev (iD cells (i:Int) out se) (fun o=>match o with | .inl s'=>(∃i:Nat,s'.1=(i:Int)∧i≤cells.length∧s'.2.1.Nodup∧s'.2.1.length≤i∧s'.2.2.length=i)∧((cells.length:Int) - s'.1).toNat< ((cells.length:Int) - (i:Int)).toNat | .inr r=>r.length=cells.length):=by
   intro se g1 g2 g3
   unfold iD
   refine Ev.bind (RH g1 (by omega) hi' g3 (by omega)) fun o ho=>Ev.ret ?_
   refine ⟨⟨i+1,aT (by omega),by omega,g1,g2,by show o.length=_;omega⟩,?_⟩
   rw [aT (by omega)]
   omega
  rw [if_pos q,fO hi',Option.bind_some,zS _ _ (by omega),Option.bind_some]
  by_cases d:cells[i]∈seen
  ·rw [if_pos (decide_eq_true d)]
   exact (fin h1 (by omega) d).mono fun r hr=>by cases r<;>exact hr
  ·rw [if_neg (by rw [decide_eq_false d];exact Bool.false_ne_true),Option.bind_some,IL (by rw [List.length_singleton];omega),Option.bind_some]
   refine (fin (se:=seen++[cells[i]]) (List.nodup_append.2 ⟨h1,List.nodup_cons.2 ⟨by simp,List.nodup_nil⟩,fun a ha b hb=>?_⟩) (by rw [List.length_append,List.length_singleton];omega) (by simp)).mono fun r hr=>by cases r<;>exact hr
   rw [List.mem_singleton.1 hb]
   exact fun z=>d (z ▸ ha)
 ·rw [if_neg q]
  exact Ev.ret (by show out.length=_;omega)
theorem RJ {c:List Int} (hc:∀x∈c,0≤x∧x≤255) {x27 x30:Int×aP} {W H N:Int} (hW:w64 (1+x27.1)=W) (hH:w64 (1+x30.1)=H) (hN:w64 (W*H)=N) (w0:1≤W) (n0:1≤N) (n1:N≤16) (hs:Sr c 6 x30.2):
 Ev (aH (l9 x27 x30) (0,x30.2.code,x30.2.at_,x30.2.seed,([]:List Int))) (fun r=>(r.2.2.2.length:Int)=N∧Sr c 100 ⟨r.1,r.2.1,r.2.2.1⟩):=by
 refine Ev.loop (fun s:Int×List Int×Int×Int×List Int=>∃i:Nat,s.1=(i:Int)∧(i:Int)≤N∧Sr c (6+4* (i:Int)) ⟨s.2.1,s.2.2.1,s.2.2.2.1⟩∧s.2.2.2.2.length=i) (fun s=>(N - s.1).toNat) (fun s hI=>?_) ⟨0,rfl,by omega,hs.mono (by omega),rfl⟩
 rcases s with ⟨x,cd,at0,sd,t⟩
 obtain ⟨i,e,hi,hS,hl⟩:=hI
 dsimp only at e hS hl
 subst e
 unfold l9
 dsimp only
 rw [hW,hH,hN]
 by_cases q:(i:Int) <N
 ·have fin:∀(v:Int) (cd:List Int) (at0 sd:Int),Sr c (6+4* (i:Int)+2+2) ⟨cd,at0,sd⟩→Ev (gG (i:Int) t v cd at0 sd) (fun o=>match o with | .inl s'=>(∃i:Nat,s'.1=(i:Int)∧(i:Int)≤N∧Sr c (6+4* (i:Int)) ⟨s'.2.1,s'.2.2.1,s'.2.2.2.1⟩∧s'.2.2.2.2.length=i)∧(N - s'.1).toNat< (N - (i:Int)).toNat | .inr r=>(r.2.2.2.length:Int)=N∧Sr c 100 ⟨r.1,r.2.1,r.2.2.1⟩):=by
   intro v cd at0 sd hq
   unfold gG
   refine Ev.bind (Ev.apd (by rw [List.length_singleton];omega)) fun y hy=>Ev.ret ?_
   subst hy
   refine ⟨⟨i+1,aT (by omega),by omega,hq.mono (by omega),by rw [List.length_append,List.length_singleton,hl]⟩,?_⟩
   rw [aT (by omega)]
   omega
  have hmd:md (i:Int) W=some ((i:Int).tmod W):=by
   unfold md
   rw [if_neg (by omega)]
  rw [if_pos q,hmd,Option.bind_some]
  refine Ev.bind (P:=fun s=>Sr c (6+4* (i:Int)+2) ⟨s.2.1,s.2.2.1,s.2.2.2⟩∧(s.1=true→(i:Int).tmod W>0)) (Ev.ite (fun q2=>Ev.bind (O5 hc hS (by omega) 3) fun r hr=>Ev.ret ⟨hr,fun _=>q2⟩) (fun _=>Ev.ret ⟨hS.mono (by omega),fun h=>Bool.noConfusion h⟩)) fun s2 h2=>?_
  rcases s2 with ⟨b,cd2,at2,sd2⟩
  obtain ⟨h2,h2b⟩:=h2
  dsimp only at h2 h2b ⊢
  refine Ev.ite (fun q3=>?_) (fun q3=>?_)
  ·have hpos:1≤i:=by
    have:=h2b q3
    rcases Nat.eq_zero_or_pos i with z | z
    ·subst z
     rw [show ((0:Nat):Int)=0 from rfl,Int.zero_tmod] at this
     omega
    ·exact z
   rw [bT (n:=(i:Int) - 1) (by omega) (by omega)]
   exact Ev.bind (Ev.rd (by omega) (by omega)) fun v _=>(fin v _ _ _ (h2.mono (by omega))).mono fun r hr=>by cases r<;>exact hr
  ·refine Ev.bind (P:=fun s=>Sr c (6+4* (i:Int)+2+2) ⟨s.2.1,s.2.2.1,s.2.2.2⟩∧(s.1=true→(i:Int)≥W)) (Ev.ite (fun q2=>Ev.bind (O5 hc h2 (by omega) 3) fun r hr=>Ev.ret ⟨hr,fun _=>q2⟩) (fun _=>Ev.ret ⟨h2.mono (by omega),fun h=>Bool.noConfusion h⟩)) fun s3 h3=>?_
   rcases s3 with ⟨b3,cd3,at3,sd3⟩
   obtain ⟨h3,h3b⟩:=h3
   dsimp only at h3 h3b ⊢
   refine Ev.ite (fun q4=>?_) (fun q4=>(fin (i:Int) _ _ _ h3).mono fun r hr=>by cases r<;>exact hr)
   have:=h3b q4
   rw [bT (n:=(i:Int) - W) (by omega) (by omega)]
   exact Ev.bind (Ev.rd (by omega) (by omega)) fun v _=>(fin v _ _ _ h3).mono fun r hr=>by cases r<;>exact hr
 ·rw [if_neg q]
  exact Ev.ret ⟨by show (t.length:Int)=N;omega,hS.mono (by omega)⟩
theorem PG {c:List Int} (hc:∀x∈c,0≤x∧x≤255) {s:aP} (hs:Sr c 0 s):Ev (oK s) (fun _=>True):=by
 unfold oK
 refine Ev.bind (BX hc hs (by omega) 6) fun x9 h9=>?_
 refine Ev.ite (fun _=>Ev.ret trivial) fun _=>Ev.ite (fun _=>Ev.ret trivial) fun _=>Ev.ite (fun _=>Ev.ret trivial) fun _=>Ev.ite (fun _=>Ev.ret trivial) fun _=>?_
 refine Ev.bind (BX hc h9.2.2 (by omega) 4) fun x27 h27=>?_
 refine Ev.bind (BX hc h27.2.2 (by omega) 4) fun x30 h30=>?_
 have a1:=h27.2.1 (by omega)
 have b1:=h30.2.1 (by omega)
 have a0:=h27.1
 have b0:=h30.1
 have hW:w64 (1+x27.1)=1+x27.1:=bT (by omega) (by omega)
 have hH:w64 (1+x30.1)=1+x30.1:=bT (by omega) (by omega)
 have m1:=Int.mul_le_mul (show 1+x27.1≤4 by omega) (show 1+x30.1≤4 by omega) (by omega) (by omega)
 have m0:=Int.mul_le_mul (show 1≤1+x27.1 by omega) (show 1≤1+x30.1 by omega) (by omega) (by omega)
 have hN:w64 ((1+x27.1) * (1+x30.1))=(1+x27.1) * (1+x30.1):=bT (by omega) (by omega)
 refine Ev.bind (RJ hc hW hH hN (by omega) (by omega) (by omega) (h30.2.2.mono (by omega))) fun o ho=>?_
 rcases o with ⟨cd,at1,sd,t⟩
 obtain ⟨ho1,ho2⟩:=ho
 dsimp only at ho1 ho2 ⊢
 refine Ev.bind (RI (by omega)) fun x79 h79=>?_
 refine Ev.bind (BX hc ho2 (by omega) 4) fun x82 h82=>?_
 have c0:=h82.1
 have c1:=h82.2.1 (by omega)
 rw [hW,hH]
 obtain ⟨t',e,_⟩:=Px (t:=⟨1+x27.1,1+x30.1,x79⟩) ⟨by show 1≤1+x27.1;omega,by show 1+x27.1≤12;omega,by show 1≤1+x30.1;omega,by show 1+x30.1≤12;omega,by show (x79.length:Int)=(1+x27.1) * (1+x30.1);omega⟩ (dx:=x82.1) (dy:=0) (by omega) (by omega) (by omega) (by omega)
 rw [e]
 exact Ev.ret trivial
theorem Uu (l:List Int) (n:Int) (hl:l.length≤1048576):tJ l n=some (decide (n∈l)):=by
 unfold tJ
 rcases KN (f:=ni l n) l (fun x=>!decide (x=n)) (fun _=>true) (by omega) (fun i hi=>by
  unfold ni
  rw [if_pos (by omega),fO hi,Option.bind_some]
  by_cases c:l[i]=n<;>simp [c]) (by unfold ni;rw [if_neg (by omega)]) with ⟨h1,h2⟩ | ⟨h1,i,hi,h2⟩
 ·rw [h2]
  have:¬n∈l:=fun h=>by
   have:=List.all_eq_true.1 h1 n h
   simp at this
  simp [this]
 ·rw [h2]
  have:n∈l:=by
   rw [List.all_eq_false] at h1
   obtain ⟨x,hx,h⟩:=h1
   simp at h
   exact h ▸ hx
  simp [this]
theorem SK {m:List Int} (hm:∀x∈m,0≤x∧x≤255) {k:Int} (hk:0≤k):∃v,rZ m k 12=some v∧0≤v∧v<12:=by
 unfold rZ
 by_cases c1:k≥(m.length:Int)
 ·rw [if_pos (.inr c1)]
  exact ⟨0,rfl,by omega,by omega⟩
 ·rw [if_neg (by omega)]
  have hj:k.toNat<m.length:=by omega
  obtain ⟨y1,y2⟩:=hm _ (List.getElem_mem hj)
  have hk2:rd m k=some m[k.toNat]:=by
   have:=fO hj
   rw [Int.toNat_of_nonneg hk] at this
   exact this
  rw [hk2,Option.bind_some,bT (by omega) (by omega)]
  unfold md
  rw [if_neg (by omega),Int.tmod_eq_emod_of_nonneg y1]
  exact ⟨_,rfl,Int.emod_nonneg _ (by omega),Int.emod_lt_of_pos _ (by omega)⟩
def tC:ae:=⟨2,2,[0,0,1,1]⟩
theorem SL:iI tC=some true:=by
 have hT:TB tC:=⟨by decide,by decide,by decide,by decide,by decide⟩
 refine SG hT (n:=2) (by decide) (by decide) (by decide) (by decide) (fun k hk=>?_)
 have hk2:(k:Int)∈tC.Cells:=by
  rcases Nat.lt_or_ge k 1 with h | h
  ·obtain rfl:k=0:=by omega
   decide
  ·obtain rfl:k=1:=by omega
   decide
 obtain ⟨b,h1,h2⟩:=y8 hT (Ld hT) hk2
 rw [h1,h2.2]
 intro S u hu hS hcl v hv
 by_cases e:v=u
 ·subst e
  exact hS
 ·refine hcl u v hu hS ?_ (qM.1 hv).2
  have n0:=Be hT (i:=0) (by decide)
  have n1:=Be hT (i:=1) (by decide)
  have n2:=Be hT (i:=2) (by decide)
  have n3:=Be hT (i:=3) (by decide)
  rcases Nat.lt_or_ge k 1 with h | h
  ·obtain rfl:k=0:=by omega
   rw [show kcl tC ((0:Nat):Int)=[0,1] by decide] at hu hv
   simp only [List.mem_cons,List.not_mem_nil,or_false] at hu hv
   rcases hu with rfl | rfl<;>rcases hv with rfl | rfl
   ·exact absurd rfl e
   ·exact (show (1:Int)∈nbS tC ((0:Nat):Int) by rw [n0];decide)
   ·exact (show (0:Int)∈nbS tC ((1:Nat):Int) by rw [n1];decide)
   ·exact absurd rfl e
  ·obtain rfl:k=1:=by omega
   rw [show kcl tC ((1:Nat):Int)=[2,3] by decide] at hu hv
   simp only [List.mem_cons,List.not_mem_nil,or_false] at hu hv
   rcases hu with rfl | rfl<;>rcases hv with rfl | rfl
   ·exact absurd rfl e
   ·exact (show (3:Int)∈nbS tC ((2:Nat):Int) by rw [n2];decide)
   ·exact (show (2:Int)∈nbS tC ((3:Nat):Int) by rw [n3];decide)
   ·exact absurd rfl e
theorem MN {c:List Int} (hc:∀x∈c,0≤x∧x≤255):∃t n,ng c=some t∧VT t n∧iI t=some true∧aU t=some true:=by
 obtain ⟨s,h1,h2⟩:=Rq c
 obtain ⟨r,h3,_⟩:=PG hc h2
 obtain ⟨v,h4,h5,h6⟩:=BZ r.1
 unfold ng
 rw [h1,Option.bind_some,h3,Option.bind_some,h4,Option.bind_some]
 cases v with
 | true=>
  obtain ⟨n,hV⟩:=h6 rfl
  exact ⟨_,n,rfl,hV,h4,h5⟩
 | false=>
  obtain ⟨v,g4,g5,g6⟩:=BZ tC
  rw [SL] at g4
  cases g4
  obtain ⟨n,hV⟩:=g6 rfl
  exact ⟨tC,n,rfl,hV,SL,g5⟩
theorem Uw {t:ae} {n:Nat} (hV:VT t n) (hok:aU t=some true) {k:Nat} (hk:k<n):iO t (k:Int)=some (nrT t (k:Int),0):=by
 have n2:=hV.n2
 unfold iO
 rw [hok,Option.bind_some,if_pos rfl,hV.ti,Option.bind_some,bT (by omega) (by omega),Bc,Option.bind_some,if_pos (decide_eq_true (by omega)),La hV,Option.bind_some]
 have hl:k< (NT2 t n).length:=by rw [Cb];exact hk
 rw [fO hl,Option.bind_some,List.getElem_map,List.getElem_range]
theorem IY (c m:List Int) (hc:∀x∈c,0≤x∧x≤255) (hm:∀x∈m,0≤x∧x≤255):oV c m=some true:=by
 unfold oV uw
 rw [Option.bind_some]
 by_cases hlong:((decide ((c.length:Int) >1048576))||(decide ((m.length:Int) >1048576)))=true
 ·rw [if_pos hlong]
 rw [if_neg hlong]
 obtain ⟨t,n,e1,hV,ok1,ok2⟩:=MN hc
 obtain ⟨o,q,k,e2,hq⟩:=MM hV ok2 (B:=4000) (by omega) (by omega)
 obtain ⟨dx,e3,x0,x1⟩:=SK hm (k:=0) (by omega)
 obtain ⟨dy,e4,y0,y1⟩:=SK hm (k:=1) (by omega)
 obtain ⟨t',e5,hM⟩:=Px hV.tb (dx:=dx) (dy:=dy) (by omega) (by omega) (by omega) (by omega)
 obtain ⟨ok3,hV'⟩:=Po hV hM
 have ok4:aU t'=some true:=by
  obtain ⟨v,g4,g5,_⟩:=BZ t'
  rw [ok3] at g4
  cases g4
  exact g5
 have e6:jQ t dx dy=some (t',0):=by
  unfold jQ qZ
  rw [ok1,Option.bind_some,if_pos rfl,FB,Option.bind_some,Option.bind_some,if_pos (decide_eq_true (by omega)),FB,Option.bind_some,Option.bind_some,decide_eq_true (show -20000≤dy∧dy≤20000 by omega),Option.bind_some,Bool.not_true,if_neg Bool.false_ne_true,e5,Option.bind_some]
 have s1:=SI hV.tb hM (VL hV.tb hM)
 have s2:=SI hV.tb hM (VM hV.tb hM)
 have p1:=(Ef (Py t) t.Cells.length).1
 have p2:=(Ef (Pz t) t.Cells.length).1
 have n1:=hV.n1
 have n2:=hV.n2
 rw [e1,Option.bind_some,e2,Option.bind_some,e3,Option.bind_some,e4,Option.bind_some,e6,Option.bind_some,PD hV.tb ok2,Option.bind_some,PD hV'.tb ok4,Option.bind_some,PE hV.tb ok2,Option.bind_some,PE hV'.tb ok4,Option.bind_some]
 dsimp only
 rw [s1,s2,if_neg (by omega)]
 rcases hq with rfl | ⟨rfl,hl,q1,q2,hC,hx,hmx⟩
 ·rw [if_pos (by omega)]
  rfl
 rw [if_neg (by omega)]
 have e7:kP t=some ((n:Int),0):=by
  unfold kP
  rw [ok1,Option.bind_some,if_pos rfl,hV.ms,Option.bind_some]
 rw [e7,Option.bind_some]
 dsimp only
 have rg:∀j (h:j<o.length),0≤o[j]∧o[j] <q:=fun j h=>⟨(hC j h).1,hx _ (List.getElem_mem h)⟩
 have gd:∀j (h:j<o.length),o.getD j 0=o[j]:=fun j h=>by rw [List.getD_eq_getElem?_getD,List.getElem?_eq_getElem h];rfl
 have q3:q=1↔(n:Int)=1:=by
  refine ⟨fun hq=>?_,fun hn=>by omega⟩
  by_cases z:n=1
  ·omega
  ·obtain ⟨a,b,ha,hb,hab⟩:=RF hV (by omega)
   have:=FI hV hl hC ha hb hab
   rw [gd a (by omega),gd b (by omega)] at this
   have r1:=rg a (by omega)
   have r2:=rg b (by omega)
   omega
 have q4:(q==1)=((n:Int)==1):=by
  by_cases z:q=1
  ·rw [beq_iff_eq.2 z,beq_iff_eq.2 (q3.1 z)]
  ·rw [beq_eq_false_iff_ne.2 z,beq_eq_false_iff_ne.2 fun h=>z (q3.2 h)]
 rw [if_neg (by rw [q4];simp only [not_true_eq_false,or_false];omega)]
 have lp:aH (jm ((n:Int),0) t (o,q,0)) ((fun i:Nat=>(i:Int)) 0)=some (.inl ()):=by
  refine lZ (fun i:Nat=>(i:Int)) n (fun i hi=>?_) ?_
  ·unfold jm
   dsimp only
   have hi':i<o.length:=by omega
   have r1:=rg i hi'
   rw [if_pos (by omega),Uw hV ok2 hi,Option.bind_some]
   dsimp only
   rw [if_neg (by omega),fO hi',Option.bind_some,if_neg (by omega),Option.bind_some,Option.bind_some,if_neg (by simp only [decide_eq_true_eq];omega)]
   have inner:aH (jl (i:Int) ((n:Int),0) (nrT t (i:Int),0) (o,q,0)) ((fun j:Nat=>(j:Int)) 0)=some (.inl ()):=by
    have hnl:=(Ed hV (i:Int)).2.2.1
    refine lZ (fun j:Nat=>(j:Int)) (nrT t (i:Int)).length (fun j hj=>?_) ?_
    ·unfold jl
     dsimp only
     have hmem:=List.getElem_mem hj
     obtain ⟨v0,v1⟩:=Pj hV (i:Int) _ hmem
     have hne:=(Pq hV hmem).2
     obtain ⟨v,hv⟩:∃v:Nat,(nrT t (i:Int))[j]=(v:Int):=⟨((nrT t (i:Int))[j]).toNat,by omega⟩
     rw [hv] at v0 v1 hne hmem
     have hdf:=FI hV hl hC hi (show v<n by omega) hmem
     have hv':v<o.length:=by omega
     rw [gd v hv',gd i hi'] at hdf
     rw [if_pos (by omega),fO hj,Option.bind_some,hv,if_neg (by omega),Option.bind_some,if_neg (by omega),Option.bind_some,if_neg hne,Option.bind_some,fO hv',Option.bind_some,fO hi',Option.bind_some,Option.bind_some,if_neg (by simpa using hdf),aT (by omega)]
    ·unfold jl
     dsimp only
     rw [if_neg (by omega)]
   have e0:((fun j:Nat=>(j:Int)) 0)=(0:Int):=rfl
   rw [e0] at inner
   rw [inner,Option.bind_some]
   dsimp only
   rw [aT (by omega)]
  ·unfold jm
   dsimp only
   rw [if_neg (by omega)]
 have e0:((fun j:Nat=>(j:Int)) 0)=(0:Int):=rfl
 rw [e0] at lp
 rw [lp,Option.bind_some]
 dsimp only
 rw [bT (by omega) (by omega),Uu _ _ (by omega),Option.bind_some,decide_eq_true hmx]
end Go.Pw
