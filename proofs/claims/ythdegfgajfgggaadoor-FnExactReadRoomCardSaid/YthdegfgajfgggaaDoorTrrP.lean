/- The plain law of FnExactReadRoom. Conditions: none. -/
import Derived.Test.YthdegfgajfgggaaDoorTrrT
import Derived.Test.YthdegfgajfgggaaDoorSimPe
import Derived.Test.YthdegfgajfgggaaDoorSimPn
namespace Go.Pw
open Go.Sim (min2 max2)
set_option linter.unusedVariables false
set_option linter.unusedSimpArgs false
theorem within_eq (n a b:Int):impl_within n a b=some (decide (a≤n∧n≤b)):=by
 unfold impl_within
 rw [Bool.decide_and]
theorem in_eq (n a b:Int):spec_l00In n a b=some (decide (a≤n∧n≤b)):=by
 unfold spec_l00In
 rw [Bool.decide_and]
open Go.Lib (decDigits itoa)
theorem dg_toNat {d:Nat} (h:d<10):((UInt8.ofNat (48+d)).toNat:Int)=48+(d:Int):=by
 have:(UInt8.ofNat (48+d)).toNat=48+d:=by
  rw [UInt8.toNat_ofNat']
  exact Nat.mod_eq_of_lt (by omega)
 omega
theorem fmt_eq {n:Int} (h0:-9223372036854775808≤n) (h1:n≤9223372036854775807):fmtI n=some (dcm n):=by
 unfold fmtI
 rw [if_pos ⟨h0,h1⟩]
def isDig (b:UInt8):Bool:=decide (48≤b.toNat∧b.toNat≤57)
def valN (L:List UInt8):Nat:=L.foldl (fun a b=>10*a+(b.toNat - 48)) 0
theorem valN_snoc (L:List UInt8) (b:UInt8):valN (L++[b])=10*valN L+(b.toNat - 48):=by
 unfold valN
 rw [List.foldl_append]
 rfl
theorem isDig_iff {b:UInt8}:isDig b=true↔48≤b.toNat∧b.toNat≤57:=by
 unfold isDig
 exact decide_eq_true_iff
theorem valN_lt':∀R:List UInt8,(∀b∈R,isDig b=true)→valN R.reverse<10 ^ R.length:=by
 intro R
 induction R with
 | nil=>intro _;exact Nat.one_pos
 | cons b R ih=>
  intro h
  have h1:=ih fun x hx=>h x (List.mem_cons_of_mem _ hx)
  have h2:=isDig_iff.1 (h b List.mem_cons_self)
  rw [List.reverse_cons,valN_snoc,List.length_cons,Nat.pow_succ]
  omega
theorem valN_lt {L:List UInt8} (h:∀b∈L,isDig b=true):valN L<10 ^ L.length:=by
 have:=valN_lt' L.reverse fun b hb=>h b (List.mem_reverse.1 hb)
 rwa [List.reverse_reverse,List.length_reverse] at this
theorem valN_pos':∀R:List UInt8,(∀b∈R,isDig b=true)→R≠[]→R.reverse.head? ≠some 48→1≤valN R.reverse:=by
 intro R
 induction R with
 | nil=>intro _ h;exact absurd rfl h
 | cons b R ih=>
  intro h _ h3
  rw [List.reverse_cons] at h3 ⊢
  rw [valN_snoc]
  have h2:=isDig_iff.1 (h b List.mem_cons_self)
  by_cases c:R=[]
  ·subst c
   have:b≠48:=fun e=>h3 (by rw [e];rfl)
   have:b.toNat≠48:=fun e=>this (UInt8.toNat_inj.1 e)
   omega
  ·have:=ih (fun x hx=>h x (List.mem_cons_of_mem _ hx)) c (by
    intro e
    exact h3 (by rw [List.head?_append,e];rfl))
   omega
theorem dd_ne:∀u:Nat,decDigits u≠[]:=by
 intro u
 rw [decDigits]
 split<;>simp
theorem dec_val':∀R:List UInt8,(∀b∈R,isDig b=true)→R≠[]→(R.reverse.head? ≠some 48∨R.length=1)→decDigits (valN R.reverse)=R.reverse:=by
 intro R
 induction R with
 | nil=>intro _ h;exact absurd rfl h
 | cons b R ih=>
  intro h _ h3
  have h2:=isDig_iff.1 (h b List.mem_cons_self)
  have hb:UInt8.ofNat (48+(b.toNat - 48))=b:=by
   rw [show 48+(b.toNat - 48)=b.toNat by omega,UInt8.ofNat_toNat]
  rw [List.reverse_cons,valN_snoc] at*
  by_cases c:R=[]
  ·subst c
   show decDigits (10*0+(b.toNat - 48))=[b]
   rw [decDigits,dif_pos (by omega),show 48+(10*0+(b.toNat - 48))=48+(b.toNat - 48) by omega,hb]
  ·have hl:0<R.length:=List.length_pos_iff.2 c
   have h4:R.reverse.head? ≠some 48:=by
    intro e
    rcases h3 with h3 | h3
    ·exact h3 (by rw [List.head?_append,e];rfl)
    ·rw [List.length_cons] at h3;omega
   have h5:=valN_pos' R (fun x hx=>h x (List.mem_cons_of_mem _ hx)) c h4
   have h6:=ih (fun x hx=>h x (List.mem_cons_of_mem _ hx)) c (.inl h4)
   rw [decDigits,dif_neg (by omega),show (10*valN R.reverse+(b.toNat - 48)) / 10=valN R.reverse by omega,show (10*valN R.reverse+(b.toNat - 48)) % 10=b.toNat - 48 by omega,h6,hb]
theorem dd_head:∀(n u:Nat),u≤n→1≤u→(decDigits u).head? ≠some 48:=by
 intro n
 induction n with
 | zero=>intro u h0 h1;omega
 | succ n ih=>
  intro u h0 h1 e
  rw [decDigits] at e
  by_cases c:u<10
  ·rw [dif_pos c] at e
   have e:UInt8.ofNat (48+u)=48:=Option.some.inj e
   have:=dg_toNat c
   rw [e] at this
   have:((48:UInt8).toNat:Int)=48+(u:Int):=this
   have h48:(48:UInt8).toNat=48:=rfl
   omega
  ·rw [dif_neg c,List.head?_append] at e
   have:=ih (u / 10) (by omega) (by omega)
   cases hd:(decDigits (u / 10)).head? with
   | none=>exact dd_ne _ (List.head?_eq_none_iff.1 hd)
   | some x=>
    rw [hd] at e this
    exact this e
theorem dec_val {L:List UInt8} (h:∀b∈L,isDig b=true) (h0:L≠[]):decDigits (valN L)=L↔(L.head? ≠some 48∨L.length=1):=by
 constructor
 ·intro e
  by_cases c:L.head? =some 48
  ·right
   by_cases d:valN L=0
   ·rw [←e,d,decDigits,dif_pos (by omega)]
    rfl
   ·exact absurd (by rw [e];exact c) (dd_head (valN L) _ (Nat.le_refl _) (by omega))
  ·exact .inl c
 ·intro e
  have:=dec_val' L.reverse (fun b hb=>h b (List.mem_reverse.1 hb)) (by simpa using h0) (by simpa using e)
  rwa [List.reverse_reverse] at this
def okN (L:List UInt8):Bool:=decide (1≤L.length∧L.length≤18)&&L.all isDig&&(decide (L.head? ≠some 48)||decide (L.length=1))
def numOf (L:List UInt8):Int×Bool:=
 if L.head? =some 45 then (if okN L.tail=true∧L.tail.head? ≠some 48 then (-(valN L.tail:Int),true) else (0,false))
 else if okN L=true then ((valN L:Int),true) else (0,false)
theorem okN_iff {L:List UInt8}:okN L=true↔(1≤L.length∧L.length≤18)∧L.all isDig=true∧(L.head? ≠some 48∨L.length=1):=by
 unfold okN
 rw [Bool.and_eq_true,Bool.and_eq_true,Bool.or_eq_true,decide_eq_true_iff,decide_eq_true_iff,decide_eq_true_iff,and_assoc]
theorem valN_i64 {L:List UInt8} (h:L.all isDig=true) (hl:L.length≤18):(valN L:Int) <1000000000000000000:=by
 have h1:=valN_lt (List.all_eq_true.1 h)
 have h2:10 ^ L.length≤10 ^ 18:=Nat.pow_le_pow_right (by omega) hl
 have h3:(10:Nat) ^ 18=1000000000000000000:=by decide
 omega
theorem num_loop {f:Int×Int→Option ((Int×Int) ⊕ (Int ⊕ (Int×Bool)))} (D:List UInt8) (c:Nat) (hD:D.length≤18)
 (h1:∀(n:Int) (i:Nat) (hi:i<D.length),0≤n→n<100000000000000000→f (n,((c+i:Nat):Int))=if isDig D[i]=true then some (.inl (10*n+((D[i].toNat - 48:Nat):Int),((c+i+1:Nat):Int))) else some (.inr (.inr (0,false))))
 (h2:∀n,f (n,((c+D.length:Nat):Int))=some (.inr (.inl n))):loopO f (0,(c:Int))=some (if D.all isDig=true then .inl (valN D:Int) else .inr (0,false)):=by
 have key:∀m i:Nat,i+m=D.length→(D.take i).all isDig=true→loopO f ((valN (D.take i):Int),((c+i:Nat):Int))=some (if D.all isDig=true then .inl (valN D:Int) else .inr (0,false)):=by
  intro m
  induction m with
  | zero=>
   intro i hi ha
   obtain rfl:i=D.length:=by omega
   rw [List.take_length] at ha ⊢
   rw [if_pos ha]
   exact loopO_done (h2 _)
  | succ m ih=>
   intro i hi ha
   have hi':i<D.length:=by omega
   have hv:(valN (D.take i):Int) <100000000000000000:=by
    have q1:=valN_lt (List.all_eq_true.1 ha)
    have q2:10 ^ (D.take i).length≤10 ^ 17:=Nat.pow_le_pow_right (by omega) (by rw [List.length_take];omega)
    have q3:(10:Nat) ^ 17=100000000000000000:=by decide
    omega
   have h:=h1 (valN (D.take i):Int) i hi' (by omega) hv
   have et:D.take (i+1)=D.take i++[D[i]]:=List.take_succ_eq_append_getElem hi'
   cases hp:isDig D[i] with
   | false=>
    rw [hp,if_neg (by decide)] at h
    rw [loopO_done h]
    have:¬D.all isDig=true:=fun q=>by
     rw [List.all_eq_true.1 q _ (List.getElem_mem hi')] at hp
     cases hp
    rw [if_neg this]
   | true=>
    rw [hp,if_pos rfl] at h
    rw [loopO_next h]
    have:=ih (i+1) (by omega) (by rw [et,List.all_append,ha,List.all_cons,hp];rfl)
    rw [et,valN_snoc] at this
    rw [←this]
    congr 2
 have:=key D.length 0 (by omega) (by rw [List.take_zero];rfl)
 rw [List.take_zero,Nat.add_zero] at this
 exact this
theorem u8_id {n:Int} (h0:0≤n) (h1:n<256):IntKind.wrap .u8 n=n:=by
 simp only [IntKind.wrap,IntKind.signed,IntKind.bits]
 simp
 omega
theorem bt_get {s:ByteArray} {i:Nat} (h:i<s.data.toList.length):bt s (i:Int)=some ((s.data.toList[i].toNat:Int)):=by
 unfold bt
 rw [if_pos (by omega),Int.toNat_natCast,List.getElem?_eq_getElem h]
 rfl
theorem size_len (s:ByteArray):s.size=s.data.toList.length:=by rw [Array.length_toList];rfl
theorem ba_inj {a b:ByteArray} (h:a.data.toList=b.data.toList):a=b:=by
 cases a with
 | mk x=>
  cases b with
  | mk y=>
   have:x=y:=Array.toList_inj.1 h
   rw [this]
theorem slcS_get {s:ByteArray} {lo hi:Int} (h0:0≤lo) (h1:lo≤hi) (h2:hi≤s.size):∃x,slcS s lo hi=some x∧x.data.toList=(s.data.toList.take hi.toNat).drop lo.toNat:=by
 refine ⟨_,by unfold slcS;rw [if_pos ⟨h0,h1,h2⟩],?_⟩
 rw [ByteArray.data_extract,Array.toList_extract]
 simp [List.extract,List.drop_take]
def spl (c:UInt8):List UInt8→List (List UInt8)
 | []=>[[]]
 | b::r=>if b=c then []::spl c r else match spl c r with
  | []=>[[b]]
  | h::t=>(b::h)::t
theorem spl_ne (c:UInt8) (L:List UInt8):spl c L≠[]:=by
 cases L with
 | nil=>exact List.cons_ne_nil _ _
 | cons b r=>
  unfold spl
  split
  ·exact List.cons_ne_nil _ _
  ·split<;>exact List.cons_ne_nil _ _
def onHd (p:List UInt8):List (List UInt8)→List (List UInt8)
 | []=>[p]
 | h::t=>(p++h)::t
theorem spl_cons_ne {c b:UInt8} {r:List UInt8} (h:b≠c):spl c (b::r)=onHd [b] (spl c r):=by
 rw [spl,if_neg h]
 cases spl c r<;>rfl
theorem onHd_onHd (p q:List UInt8) (X:List (List UInt8)) (hX:X≠[]):onHd p (onHd q X)=onHd (p++q) X:=by
 cases X with
 | nil=>exact absurd rfl hX
 | cons h t=>simp [onHd]
theorem spl_cut (c:UInt8):∀L:List UInt8,(spl c L=[L]∧c∉L∧Go.Lib.index L [c]=-1)∨(∃a r,L=a++c::r∧c∉a∧spl c L=a::spl c r∧Go.Lib.index L [c]=(a.length:Int)):=by
 intro L
 induction L with
 | nil=>exact .inl ⟨rfl,List.not_mem_nil,rfl⟩
 | cons b L ih=>
  by_cases e:b=c
  ·subst e
   refine .inr ⟨[],L,rfl,List.not_mem_nil,by rw [spl,if_pos rfl],?_⟩
   have:List.isPrefixOf [b] (b::L)=true:=by simp [List.isPrefixOf]
   unfold Go.Lib.index
   rw [if_pos this]
   rfl
  ·have e1:List.isPrefixOf [c] (b::L)=false:=by
    have:(c==b)=false:=beq_eq_false_iff_ne.2 fun h=>e h.symm
    simp [List.isPrefixOf,this]
   rcases ih with ⟨h1,h2,h3⟩ | ⟨a,r,h1,h2,h3,h4⟩
   ·refine .inl ⟨by rw [spl_cons_ne e,h1];rfl,?_,?_⟩
    ·intro h
     rcases List.mem_cons.1 h with h | h
     ·exact e h.symm
     ·exact h2 h
    ·unfold Go.Lib.index
     rw [e1,h3]
     rfl
   ·refine .inr ⟨b::a,r,by rw [h1];rfl,?_,by rw [spl_cons_ne e,h3];rfl,?_⟩
    ·intro h
     rcases List.mem_cons.1 h with h | h
     ·exact e h.symm
     ·exact h2 h
    ·unfold Go.Lib.index
     rw [e1,h4]
     have:((a.length:Int)==-1)=false:=by rw [beq_eq_false_iff_ne];omega
     simp [this]
theorem number_eq (s:ByteArray) (hs:s.size≤1048576):spec_l01Number s=some (numOf s.data.toList):=by
 have hz:=size_len s
 have dig:∀b:UInt8,spec_l01Digit (b.toNat:Int)=some (isDig b):=by
  intro b
  unfold spec_l01Digit isDig
  rw [←Bool.decide_and]
  exact congrArg some (decide_eq_decide.2 (by omega))
 have key:∀(c:Nat) (D:List UInt8),c≤1→s.data.toList=s.data.toList.take c++D→(s.data.toList.take c).length=c→
  spec_l01Number_k4 s (c:Int)=some (if okN D=true∧(c=1→D.head? ≠some 48) then ((if c=1 then -(valN D:Int) else (valN D:Int)),true) else (0,false)):=by
  intro c D hc hD hl
  have hlen:s.size=c+D.length:=by rw [hz,hD,List.length_append,hl]
  have hget:∀(i:Nat) (hi:i<D.length),bt s ((c+i:Nat):Int)=some ((D[i].toNat:Int)):=by
   intro i hi
   rw [bt_get (i:=c+i) (by omega)]
   congr 3
   rw [List.getElem_of_eq hD,List.getElem_append_right (by omega)]
   congr 1
   omega
  unfold spec_l01Number_k4
  by_cases c1:D.length=0
  ·have hd0:D=[]:=List.length_eq_zero_iff.1 c1
   rw [if_pos (show (s.size:Int)=(c:Int) by omega),Option.bind_some,if_pos rfl,if_neg]
   rintro ⟨h,_⟩
   have:=(okN_iff.1 h).1
   omega
  ·rw [if_neg (show ¬(s.size:Int)=(c:Int) by omega),w64_id (by omega) (by omega)]
   by_cases c2:D.length>18
   ·rw [if_pos (by omega),Option.bind_some,if_pos rfl,if_neg]
    rintro ⟨h,_⟩
    have:=(okN_iff.1 h).1
    omega
   ·have h0:=hget 0 (by omega)
    rw [show ((c+0:Nat):Int)=(c:Int) by omega] at h0
    rw [if_neg (by omega),h0,Option.bind_some]
    have hhd:D.head? =some D[0]:=by
     rw [List.head?_eq_getElem?,List.getElem?_eq_getElem (by omega)]
    have h48:(48:UInt8).toNat=48:=rfl
    have hl:=num_loop (f:=spec_l01Number_l8 s) D c (by omega) (fun n i hi n0 n1=>by
     unfold spec_l01Number_l8
     dsimp only
     rw [if_pos (by omega),hget i hi,Option.bind_some,dig,Option.bind_some]
     by_cases hp:isDig D[i]=true
     ·have hq:=isDig_iff.1 hp
      rw [if_pos hp,if_pos hp,Option.bind_some,u8_id (by omega) (by omega),w64_id (n:=10*n) (by omega) (by omega),w64_id (n:=(D[i].toNat:Int) - 48) (by omega) (by omega),w64_id (by omega) (by omega),w64_id (by omega) (by omega)]
      congr 3<;>omega
     ·rw [if_neg hp,if_neg hp]) (fun n=>by
     unfold spec_l01Number_l8
     dsimp only
     rw [if_neg (by omega)])
    by_cases c3:D.head? =some 48
    ·have e48:D[0]=48:=by rw [hhd] at c3;exact Option.some.inj c3
     rw [if_pos (by rw [e48,h48];rfl)]
     by_cases c4:s.size>1
     ·rw [Option.bind_some,if_pos (decide_eq_true (by omega)),if_neg]
      rintro ⟨h,h'⟩
      rcases (okN_iff.1 h).2.2 with q | q
      ·exact q c3
      ·exact h' (by omega) c3
     ·have c0:c=0:=by omega
      subst c0
      rw [Option.bind_some,if_neg (by simp;omega),hl,Option.bind_some]
      by_cases c5:D.all isDig=true
      ·rw [if_pos c5,if_pos ⟨okN_iff.2 ⟨by omega,c5,.inr (by omega)⟩,fun e=>absurd e (by omega)⟩]
       rfl
      ·rw [if_neg c5,if_neg (fun h=>c5 (okN_iff.1 h.1).2.1)]
    ·have e48:¬(D[0].toNat:Int)=48:=by
      intro e
      apply c3
      rw [hhd]
      exact congrArg some (UInt8.toNat_inj.1 (by omega))
     rw [if_neg e48,Option.bind_some,if_neg (by decide),hl,Option.bind_some]
     by_cases c5:D.all isDig=true
     ·rw [if_pos c5,if_pos ⟨okN_iff.2 ⟨by omega,c5,.inl c3⟩,fun _=>c3⟩]
      have hv:=valN_i64 c5 (by omega)
      by_cases c6:c=1
      ·subst c6
       rw [if_pos rfl]
       show (if ((1:Nat):Int)=1 then spec_l01Number_k15 (w64 (0 - (valN D:Int))) else _)=_
       rw [if_pos (by omega),w64_id (by omega) (by omega)]
       unfold spec_l01Number_k15
       congr 2
       omega
      ·rw [if_neg c6]
       show (if ((c:Nat):Int)=1 then spec_l01Number_k15 (w64 (0 - (valN D:Int))) else _)=_
       rw [if_neg (by omega)]
       rfl
     ·rw [if_neg c5,if_neg (fun h=>c5 (okN_iff.1 h.1).2.1)]
 unfold spec_l01Number
 cases hL:s.data.toList with
 | nil=>
  have k0:=key 0 [] (by omega) (by simp [hL]) rfl
  rw [hL] at hz
  rw [if_neg (by rw [hz];decide),Option.bind_some,if_neg (by decide)]
  exact k0
 | cons b D=>
  have hb:=bt_get (s:=s) (i:=0) (by rw [hL];simp)
  have hg:s.data.toList[0]'(by rw [hL];simp)=b:=by simp [hL]
  rw [hg] at hb
  rw [if_pos (by rw [hz,hL];simp),show (0:Int)=((0:Nat):Int) from rfl,hb,Option.bind_some,Option.bind_some]
  unfold numOf
  by_cases e:b=45
  ·subst e
   have k1:=key 1 D (by omega) (by simp [hL]) (by simp [hL])
   rw [if_pos (by rfl),if_pos (show (45::D).head? =some 45 from rfl)]
   have k1':spec_l01Number_k4 s 1=_:=k1
   rw [k1']
   show _=some (if okN D=true∧D.head? ≠some 48 then (-(valN D:Int),true) else (0,false))
   by_cases hk:okN D=true∧D.head? ≠some 48
   ·rw [if_pos ⟨hk.1,fun _=>hk.2⟩,if_pos rfl,if_pos hk]
   ·rw [if_neg (fun q=>hk ⟨q.1,q.2 rfl⟩),if_neg hk]
  ·have k0:=key 0 (b::D) (by omega) (by simp [hL]) rfl
   have h45:(45:UInt8).toNat=45:=rfl
   have hne:¬(b.toNat:Int)=45:=fun q=>e (UInt8.toNat_inj.1 (by omega))
   rw [if_neg (by simpa using hne),if_neg (by simpa using e)]
   have k0':spec_l01Number_k4 s ((0:Nat):Int)=_:=k0
   rw [k0']
   simp
theorem split_eq (s:ByteArray) (c:UInt8) (hs:s.size≤1048576):spec_l01Split s (c.toNat:Int)=some ((spl c s.data.toList).map fun l=>(⟨l.toArray⟩:ByteArray)):=by
 have hz:=size_len s
 unfold spec_l01Split
 have hN:∀(m i fr:Nat) (out:List ByteArray),i+m=s.size→fr≤i→out.length≤i→out.map (fun x=>x.data.toList)++onHd ((s.data.toList.take i).drop fr) (spl c (s.data.toList.drop i))=spl c s.data.toList→
  ∃(fr':Nat) (out':List ByteArray),loopO (spec_l01Split_l4 (c.toNat:Int) s) ((fr:Int),(i:Int),out)=some ((fr':Int),out')∧fr'≤s.size∧out'.length≤s.size∧out'.map (fun x=>x.data.toList)++[s.data.toList.drop fr']=spl c s.data.toList:=by
  intro m
  induction m with
  | zero=>
   intro i fr out hi hf ho h
   obtain rfl:i=s.size:=by omega
   refine ⟨fr,out,loopO_done ?_,hf,ho,?_⟩
   ·unfold spec_l01Split_l4
    dsimp only
    rw [if_neg (by omega)]
   ·rw [←h,List.drop_of_length_le (i:=s.size) (by omega),hz,List.take_length]
    simp [spl,onHd]
  | succ m ih=>
   intro i fr out hi hf ho h
   have hi':i<s.data.toList.length:=by omega
   have hd:s.data.toList.drop i=s.data.toList[i]::s.data.toList.drop (i+1):=List.drop_eq_getElem_cons hi'
   have et:s.data.toList.take (i+1)=s.data.toList.take i++[s.data.toList[i]]:=List.take_succ_eq_append_getElem hi'
   by_cases e:s.data.toList[i]=c
   ·obtain ⟨x,x1,x2⟩:=slcS_get (s:=s) (lo:=(fr:Int)) (hi:=(i:Int)) (by omega) (by omega) (by omega)
    have st:spec_l01Split_l4 (c.toNat:Int) s ((fr:Int),(i:Int),out)=some (.inl (((i+1:Nat):Int),((i+1:Nat):Int),out++[x])):=by
     unfold spec_l01Split_l4 spec_l01Split_k5
     dsimp only
     rw [if_pos (by omega),bt_get hi',Option.bind_some,if_pos (by rw [e]),x1,Option.bind_some,apdn (by rw [List.length_singleton];omega),Option.bind_some,w64_succ (by omega)]
    rw [loopO_next st]
    refine ih (i+1) (i+1) (out++[x]) (by omega) (by omega) (by rw [List.length_append,List.length_singleton];omega) ?_
    rw [←h,hd,e,spl,if_pos rfl,List.map_append,List.append_assoc]
    congr 1
    rw [List.drop_of_length_le (l:=s.data.toList.take (i+1)) (by rw [List.length_take];omega)]
    simp only [Int.toNat_natCast] at x2
    cases hX:spl c (s.data.toList.drop (i+1)) with
    | nil=>exact absurd hX (spl_ne _ _)
    | cons a t=>simp [onHd,x2]
   ·have st:spec_l01Split_l4 (c.toNat:Int) s ((fr:Int),(i:Int),out)=some (.inl ((fr:Int),((i+1:Nat):Int),out)):=by
     unfold spec_l01Split_l4 spec_l01Split_k5
     dsimp only
     rw [if_pos (by omega),bt_get hi',Option.bind_some,if_neg (fun q=>e (UInt8.toNat_inj.1 (by omega))),w64_succ (by omega)]
    rw [loopO_next st]
    refine ih (i+1) fr out (by omega) (by omega) (by omega) ?_
    rw [←h,hd,spl_cons_ne e,onHd_onHd _ _ _ (spl_ne _ _),et,List.drop_append_of_le_length (by rw [List.length_take];omega)]
 obtain ⟨fr,out,h1,h2,h3,h4⟩:=hN s.size 0 0 [] (by omega) (by omega) (by simp) (by
  rw [List.take_zero,List.drop_zero,List.drop_zero]
  cases hX:spl c s.data.toList with
  | nil=>exact absurd hX (spl_ne _ _)
  | cons a t=>simp [onHd])
 have h1':loopO (spec_l01Split_l4 (c.toNat:Int) s) (0,0,([]:List ByteArray))=some ((fr:Int),out):=h1
 rw [h1',Option.bind_some]
 obtain ⟨x,x1,x2⟩:=slcS_get (s:=s) (lo:=(fr:Int)) (hi:=(s.size:Int)) (by omega) (by omega) (by omega)
 dsimp only
 rw [x1,Option.bind_some,apdn (by rw [List.length_singleton];omega),Option.bind_some,←h4,List.map_append,List.map_map]
 congr 1
 simp only [Int.toNat_natCast] at x2
 rw [hz,List.take_length] at x2
 congr 1
 ·conv=>lhs;rw [←List.map_id out]
  exact List.map_congr_left fun y _=>ba_inj rfl
 ·simp only [List.map_cons,List.map_nil]
  congr 1
  exact ba_inj x2
theorem valN_pos {L:List UInt8} (h:∀b∈L,isDig b=true) (h0:L≠[]) (h1:L.head? ≠some 48):1≤valN L:=by
 have:=valN_pos' L.reverse (fun b hb=>h b (List.mem_reverse.1 hb)) (by simpa using h0) (by rw [List.reverse_reverse];exact h1)
 rwa [List.reverse_reverse] at this
theorem minus_eq (s:ByteArray):strings_HasPrefix s (⟨#[45]⟩:ByteArray)=some (decide (s.data.toList.head? =some 45)):=by
 have hz:=size_len s
 have e1:((⟨#[45]⟩:ByteArray).size:Int)=1:=rfl
 have e2:(⟨#[45]⟩:ByteArray).toList=[45]:=by rw [ByteArray.toList_eq]
 unfold strings_HasPrefix stringslite_HasPrefix
 rw [e1,e2]
 cases hL:s.data.toList with
 | nil=>
  rw [hL] at hz
  rw [if_neg (by rw [hz];decide)]
  simp
 | cons b D=>
  rw [hL] at hz
  obtain ⟨x,x1,x2⟩:=slcS_get (s:=s) (lo:=0) (hi:=1) (by omega) (by omega) (by rw [hz,List.length_cons];omega)
  rw [if_pos (by rw [hz,List.length_cons];omega),x1,Option.bind_some,Option.bind_some,Option.bind_some,ByteArray.toList_eq,x2,hL]
  congr 1
  by_cases e:b=45<;>simp [e]
theorem readdec_eq (s:ByteArray) (hs:s.size≤1048576):impl_ReadDecimal s=some (numOf s.data.toList):=by
 have hz:=size_len s
 have lp:∀d:ByteArray,d.size≤18→loopO (impl_ReadDecimal_l8 d) (0,0)=some (if d.data.toList.all isDig=true then .inl (valN d.data.toList:Int) else .inr (0,false)):=by
  intro d hd
  have hz':=size_len d
  refine num_loop (f:=impl_ReadDecimal_l8 d) d.data.toList 0 (by omega) (fun n i hi n0 n1=>?_) (fun n=>?_)
  ·unfold impl_ReadDecimal_l8
   dsimp only
   rw [Nat.zero_add,if_pos (by omega),bt_get hi,Option.bind_some,Option.bind_some,Option.bind_some]
   by_cases hp:isDig d.data.toList[i]=true
   ·have hq:=isDig_iff.1 hp
    rw [if_pos hp,if_neg (by omega),Option.bind_some,if_neg (by rw [decide_eq_true_iff];omega),u8_id (by omega) (by omega),w64_id (n:=n*10) (by omega) (by omega),w64_id (n:=(d.data.toList[i].toNat:Int) - 48) (by omega) (by omega),w64_id (by omega) (by omega),w64_id (by omega) (by omega)]
    congr 3<;>omega
   ·rw [if_neg hp]
    have hq:¬(48≤d.data.toList[i].toNat∧d.data.toList[i].toNat≤57):=fun q=>hp (isDig_iff.2 q)
    by_cases c:(d.data.toList[i].toNat:Int) <48
    ·rw [if_pos c,Option.bind_some,if_pos rfl]
    ·rw [if_neg c,Option.bind_some,if_pos (decide_eq_true (by omega))]
  ·unfold impl_ReadDecimal_l8
   dsimp only
   rw [if_neg (by omega)]
 have k15:∀n:Int,-9223372036854775808≤n→n≤9223372036854775807→impl_ReadDecimal_k15 s n=some (if itoa n=s.data.toList then (n,true) else (0,false)):=by
  intro n h0 h1
  unfold impl_ReadDecimal_k15 impl_Decimal
  rw [fmt_eq h0 h1,Option.bind_some,Option.bind_some]
  by_cases c:itoa n=s.data.toList
  ·rw [if_neg (fun q=>q (ba_inj c)),if_pos c]
  ·rw [if_pos (fun q=>c (by rw [←q];rfl)),if_neg c]
 unfold impl_ReadDecimal
 rw [minus_eq,Option.bind_some]
 by_cases c:s.data.toList.head? =some 45
 ·rw [if_pos (decide_eq_true c)]
  have hne:s.data.toList≠[]:=fun e=>by rw [e] at c;cases c
  have hp:0<s.data.toList.length:=List.length_pos_iff.2 hne
  obtain ⟨d,d1,d2⟩:=slcS_get (s:=s) (lo:=1) (hi:=(s.size:Int)) (by omega) (by omega) (by omega)
  have d2:d.data.toList=s.data.toList.tail:=by
   rw [d2,Int.toNat_natCast,hz,List.take_length]
   exact List.drop_one
  have hdz:=size_len d
  have hs2:s.data.toList=45::d.data.toList:=by
   rw [d2]
   cases hL:s.data.toList with
   | nil=>exact absurd hL hne
   | cons b D=>
    rw [hL] at c
    cases c
    rfl
  have hl2:s.size=d.size+1:=by rw [hz,hs2,List.length_cons,hdz]
  rw [d1,Option.bind_some]
  unfold numOf
  rw [if_pos c,←d2]
  unfold impl_ReadDecimal_k4
  by_cases c1:(d.size:Int) <1∨(d.size:Int) >18
  ·rw [if_pos c1,if_neg]
   rintro ⟨h,_⟩
   have:=(okN_iff.1 h).1
   omega
  ·rw [if_neg c1,lp d (by omega),Option.bind_some]
   by_cases c2:d.data.toList.all isDig=true
   ·have hv:=valN_i64 c2 (by omega)
    have hd0:d.data.toList≠[]:=fun e=>by rw [hdz,e] at c1;simp at c1
    rw [if_pos c2]
    dsimp only
    rw [if_pos (by omega),w64_id (by omega) (by omega),k15 _ (by omega) (by omega),hs2]
    by_cases c3:valN d.data.toList=0
    ·have e0:itoa (0 - (valN d.data.toList:Int))=[48]:=by
      rw [c3]
      unfold itoa
      rw [if_neg (by omega),show (0 - ((0:Nat):Int)).toNat=0 by omega,decDigits,dif_pos (by omega)]
      rfl
     rw [e0,if_neg (by intro e;cases e),if_neg]
     rintro ⟨_,h⟩
     have:=valN_pos (List.all_eq_true.1 c2) hd0 h
     omega
    ·have e0:itoa (0 - (valN d.data.toList:Int))=45::decDigits (valN d.data.toList):=by
      unfold itoa
      rw [if_pos (by omega),show (0 - (valN d.data.toList:Int)).natAbs=valN d.data.toList by omega]
     have dv:=dec_val (List.all_eq_true.1 c2) hd0
     rw [e0]
     by_cases c4:d.data.toList.head? =some 48
     ·rw [if_neg,if_neg (fun h=>h.2 c4)]
      intro e
      rcases dv.1 (List.cons.inj e).2 with q | q
      ·exact q c4
      ·apply c3
       cases hD:d.data.toList with
       | nil=>exact absurd hD hd0
       | cons b t=>
        rw [hD] at q c4
        have:t=[]:=List.length_eq_zero_iff.1 (by simpa using q)
        subst this
        cases c4
        rfl
     ·rw [if_pos (by rw [dv.2 (.inl c4)]),if_pos ⟨okN_iff.2 ⟨by omega,c2,.inl c4⟩,c4⟩]
      congr 2
      omega
   ·rw [if_neg c2]
    dsimp only
    rw [if_neg (fun h=>c2 (okN_iff.1 h.1).2.1)]
 ·rw [if_neg (by rw [decide_eq_true_iff];exact c)]
  unfold numOf
  rw [if_neg c]
  unfold impl_ReadDecimal_k4
  by_cases c1:(s.size:Int) <1∨(s.size:Int) >18
  ·rw [if_pos c1,if_neg]
   intro h
   have:=(okN_iff.1 h).1
   omega
  ·rw [if_neg c1,lp s (by omega),Option.bind_some]
   by_cases c2:s.data.toList.all isDig=true
   ·have hv:=valN_i64 c2 (by omega)
    have hd0:s.data.toList≠[]:=fun e=>by rw [hz,e] at c1;simp at c1
    rw [if_pos c2]
    dsimp only
    rw [if_neg (by omega),k15 _ (by omega) (by omega)]
    have e0:itoa (valN s.data.toList:Int)=decDigits (valN s.data.toList):=by
     unfold itoa
     rw [if_neg (by omega),Int.toNat_natCast]
    have dv:=dec_val (List.all_eq_true.1 c2) hd0
    rw [e0]
    by_cases c4:s.data.toList.head? ≠some 48∨s.data.toList.length=1
    ·rw [if_pos (dv.2 c4),if_pos (okN_iff.2 ⟨by omega,c2,c4⟩)]
    ·rw [if_neg (fun e=>c4 (dv.1 e)),if_neg (fun h=>c4 (okN_iff.1 h).2.2)]
   ·rw [if_neg c2]
    dsimp only
    rw [if_neg (fun h=>c2 (okN_iff.1 h).2.1)]
theorem numOf_bad {L:List UInt8} {c:UInt8} (h:c∈L) (h1:isDig c=false) (h2:c≠45):numOf L=(0,false):=by
 have bad:∀M:List UInt8,c∈M→¬okN M=true:=fun M hm hk=>by
  rw [List.all_eq_true.1 (okN_iff.1 hk).2.1 c hm] at h1
  cases h1
 unfold numOf
 split
 ·rename_i h3
  rw [if_neg]
  rintro ⟨hk,_⟩
  refine bad _ ?_ hk
  cases L with
  | nil=>cases h
  | cons b t=>
   cases h3
   rcases List.mem_cons.1 h with e | e
   ·exact absurd e h2
   ·exact e
 ·rw [if_neg (bad _ h)]
def sizeOf2 (L:List UInt8):Int×Int×Bool:=
 if 0≤Go.Lib.index L [120] then
  ((numOf (L.take (Go.Lib.index L [120]).toNat)).1,(numOf (L.drop ((Go.Lib.index L [120]).toNat+1))).1,(numOf (L.take (Go.Lib.index L [120]).toNat)).2&&(numOf (L.drop ((Go.Lib.index L [120]).toNat+1))).2)
 else ((numOf L).1,0,false)
theorem readsize_eq (s:ByteArray) (hs:s.size≤1048576):impl_readSize s=some (sizeOf2 s.data.toList):=by
 have hz:=size_len s
 unfold impl_readSize cutS
 rw [if_pos (by omega),Option.bind_some]
 have e120:(⟨#[120]⟩:ByteArray).data.toList=[120]:=rfl
 have hb:∀l:List UInt8,(⟨l.toArray⟩:ByteArray).data.toList=l:=fun l=>rfl
 unfold cutA
 rw [e120]
 unfold Go.Lib.cut sizeOf2
 by_cases c:0≤Go.Lib.index s.data.toList [120]
 ·rw [if_pos c,if_pos c]
  dsimp only
  rw [readdec_eq _ (by rw [size_len,hb,List.length_take];omega),Option.bind_some,readdec_eq _ (by rw [size_len,hb,List.length_drop];omega),Option.bind_some]
  simp only [hb,List.length_singleton,Bool.true_and]
 ·rw [if_neg c,if_neg c]
  dsimp only
  rw [readdec_eq _ (by rw [size_len,hb];omega),Option.bind_some,readdec_eq _ (by rw [size_len,hb];simp),Option.bind_some]
  simp only [hb,Bool.false_and]
  rfl
def roomOK (r:S_Room):Bool:=decide (1≤r.Width∧r.Width≤20000)&&decide (1≤r.Length∧r.Length≤20000)
theorem room_spec (r:S_Room):spec_l30Room r=some (roomOK r):=by
 unfold spec_l30Room roomOK
 simp only [in_eq,Option.bind_some]
 by_cases c:1≤r.Width∧r.Width≤20000
 ·simp [c]
 ·simp only [decide_eq_false c]
  rfl
theorem room_impl (r:S_Room):impl_ValidRoom r=some (roomOK r):=by
 unfold impl_ValidRoom roomOK
 simp only [within_eq,Option.bind_some]
 by_cases c:1≤r.Width∧r.Width≤20000
 ·simp [c]
 ·simp only [decide_eq_false c]
  rfl
def readR (L:List UInt8):S_Room×Bool:=
 if (sizeOf2 L).2.2=true∧roomOK ⟨(sizeOf2 L).1,(sizeOf2 L).2.1⟩=true then (⟨(sizeOf2 L).1,(sizeOf2 L).2.1⟩,true) else (⟨0,0⟩,false)
theorem read_impl (s:ByteArray) (hs:s.size≤1048576):impl_ReadRoom s=some (readR s.data.toList):=by
 unfold impl_ReadRoom readR
 rw [readsize_eq s hs,Option.bind_some]
 simp only [room_impl,Option.bind_some]
 cases h1:(sizeOf2 s.data.toList).2.2 with
 | false=>simp
 | true=>cases h2:roomOK ⟨(sizeOf2 s.data.toList).1,(sizeOf2 s.data.toList).2.1⟩<;>simp
theorem read_spec (s:ByteArray) (hs:s.size≤1048576):spec_ReadRoom s=some (readR s.data.toList):=by
 have hz:=size_len s
 have hb:∀l:List UInt8,(⟨l.toArray⟩:ByteArray).data.toList=l:=fun l=>rfl
 unfold spec_ReadRoom spec_l30Read
 rw [show (120:Int)=((120:UInt8).toNat:Int) from rfl,split_eq s 120 hs,Option.bind_some]
 unfold readR sizeOf2
 rcases spl_cut 120 s.data.toList with ⟨h1,h2,h3⟩ | ⟨a,r,h1,h2,h3,h4⟩
 ·rw [h1,h3,if_neg (show ¬(0:Int)≤-1 by omega),if_pos (by simp)]
  rfl
 ·have hl:s.data.toList.length=a.length+(r.length+1):=by rw [h1,List.length_append,List.length_cons]
  have e1:s.data.toList.take a.length=a:=by rw [h1];simp
  have e2:s.data.toList.drop (a.length+1)=r:=by rw [h1];simp
  rw [h4,if_pos (show (0:Int)≤(a.length:Int) by omega),Int.toNat_natCast,e1,e2,h3]
  have n1:spec_l01Number (⟨a.toArray⟩:ByteArray)=some (numOf a):=by rw [number_eq _ (by rw [size_len,hb];omega)]
  have n2:spec_l01Number (⟨r.toArray⟩:ByteArray)=some (numOf r):=by rw [number_eq _ (by rw [size_len,hb];omega)]
  rcases spl_cut 120 r with ⟨k1,k2,k3⟩ | ⟨a',r',k1,k2,k3,k4⟩
  ·rw [k1]
   have r0:rd (List.map (fun l:List UInt8=>(⟨l.toArray⟩:ByteArray)) [a,r]) 0=some ⟨a.toArray⟩:=rfl
   have r1:rd (List.map (fun l:List UInt8=>(⟨l.toArray⟩:ByteArray)) [a,r]) 1=some ⟨r.toArray⟩:=rfl
   rw [if_neg (by simp),r0,Option.bind_some,n1,Option.bind_some,r1,Option.bind_some,n2,Option.bind_some]
   simp only [room_spec,Option.bind_some]
   cases q1:(numOf a).2 with
   | false=>simp
   | true=>
    cases q2:(numOf r).2 with
    | false=>simp
    | true=>cases q3:roomOK ⟨(numOf a).1,(numOf r).1⟩<;>simp [q3]
  ·have nb:numOf r=(0,false):=numOf_bad (c:=120) (by rw [k1];simp) (by decide) (by decide)
   rw [if_pos,Option.bind_some,nb]
   ·simp
   ·rw [k3]
    have:=spl_ne 120 r'
    cases hX:spl 120 r' with
    | nil=>exact absurd hX this
    | cons x y=>simp;omega
theorem law_ReadRoom (aS:ByteArray):laws_FnExactReadRoom aS=some true:=by
 unfold laws_FnExactReadRoom
 by_cases c:(aS.size:Int) >1048576
 ·rw [if_pos c]
 ·rw [if_neg c,read_spec aS (by omega),Option.bind_some,read_impl aS (by omega),Option.bind_some]
  unfold laws_eqRoom
  simp
end Go.Pw
