/- The operations that write and call, the end of a function, regions of many orders: one rule for each shape. Conditions: none. -/
import Derived.Test.YtngbehdgjocndaaGreatSimRb
namespace Go.Sim
open Go.Pw
set_option linter.unusedSimpArgs false
set_option linter.unusedVariables false
def aJ (P:Program) (cfg:Cfg) (g:FuncId) (j:Nat):List TypeId→List (PM×List (Option Nat))
 | []=>[]
 | t::ts=>(cfg.par g j,(fC P t).getD [])::aJ P cfg g (j+1) ts
def Bj (st:St):List (PM×List (Option Nat))→List SV→Option (List (Option Arg)×St)
 | (m,ks)::pk,x::xs=>(st.SE m ks x).bind fun p=>(Bj p.2 pk xs).map fun q=>(p.1::q.1,q.2)
 | _,_=>some ([],st)
def MP (st:St):List (PM×List (Option Nat))→List SV→List (Option Arg)→Option Pn
 | (m,ks)::pk,x::xs,a::as=>(st.see m ks x a).bind fun p=>(MP st pk xs as).map fun q=>⟨p.arg::q.args,p.bor++q.bor,p.iZ++q.iZ,Nat.max p.tag q.tag,Nat.max p.fO q.fO⟩
 | [],[],[]=>some ⟨[],[],[],0,0⟩
 | _,_,_=>none
def La (P:Program):List (ResultVar×TypeId)→List (ResultVar×List (Option Nat)×Option (Bool×Nat))
 | []=>[]
 | (r,t)::l=>(r,(fC P t).getD [],(match r with | .tmp _=>none | .cell _ u=>(fC P u).map fun _=>(fJ P u,(if fJ P u then P.cellsOf u else 1))))::La P l
def adY (st:St):ResultVar×List (Option Nat)×Option (Bool×Nat)→Option SV
 | (.tmp t,_)=>some (st.sl t)
 | (.cell a _,_,ld)=>ld.bind fun q=>(st.get (.tmp a)).one?.bind fun r=>st.load q.1 q.2 r
def adZ (st:St):List (ResultVar×List (Option Nat)×Option (Bool×Nat))→Option (Res×St)
 | []=>some ([],st)
 | x::rs=>(adY st x).bind fun
  | .v ag cs=>(st.Gz x.2.1 cs).bind fun p=>(adZ p.2 rs).map fun (q:Res×St)=>((ag,p.1)::q.1,q.2)
  | _=>none
def Lc (st:St) (x:ResultVar×List (Option Nat)×Option (Bool×Nat)):Option (Bool×List CV):=
 match adY st x with
 | some (.v false [.mp o s 0])=>(st.obj o s).bind fun ob=>if ob.mem&&!ob.fz&&!ob.io then (Gy ob.cs).map fun cs=>(ob.ag,cs) else none
 | _=>none
def Xw (st:St) (l:List (ResultVar×List (Option Nat)×Option (Bool×Nat))):Option (Res×St):=
 match l with
 | [x]=>match Lc st x with
  | some p=>some ([(false,[.pt p.1 p.2])],st)
  | none=>match st.UK (adY st x) with
   | some st'=>(Lc st' x).map fun p=>([(false,[.pt p.1 p.2])],st')
   | none=>adZ st [x]
 | l=>adZ st l
noncomputable section
variable {P:Program} {cfg:Cfg} {C:yc} {f nt:Nat} {ops:Array Oper} {l:List Oper} {st st1 st2 X:St} {A A' A1 A2:List (Nat×SV)} {B B' B1 B2:List (Nat×Option Obj)}
variable {d:Nat} {op:Op} {dst:Option Tmp} {ty:TypeId} {pos:String} {aft:Array Edge} {gd:Option (Nat×Bool)}
theorem alB {α:Type} {a b:Option α} {x:α} (h:a=some x):a.or b=some x:=by rw [h];rfl
theorem JO (g:FuncId):∀(ts:List TypeId) (xs:List SV) (j:Nat) (st:St),ts.length=xs.length→st.wS P cfg g j (ts.zip xs)=Bj st (aJ P cfg g j ts) xs
 | [],[],j,st,_=>rfl
 | t::ts,x::xs,j,st,h=>by
  simp only [List.zip_cons_cons,St.wS,aJ,Bj]
  congr 1
  funext p
  rw [JO g ts xs (j+1) p.2 (by simpa using h)]
 | [],_::_,_,_,h=>by cases h
 | _::_,[],_,_,h=>by cases h
theorem MQ (g:FuncId) (st:St):∀(ts:List TypeId) (xs:List SV) (as:List (Option Arg)) (j:Nat),ts.length=xs.length→st.vX P cfg g j (ts.zip xs) as=MP st (aJ P cfg g j ts) xs as
 | [],[],[],j,_=>rfl
 | [],[],_::_,j,_=>rfl
 | t::ts,x::xs,[],j,h=>by simp only [List.zip_cons_cons,St.vX,aJ,MP]
 | t::ts,x::xs,a::as,j,h=>by
  simp only [List.zip_cons_cons,St.vX,aJ,MP]
  congr 1
  funext p
  rw [MQ g st ts xs as (j+1) (by simpa using h)]
 | [],_::_,_,_,h=>by cases h
 | _::_,[],_,_,h=>by cases h
def Ov (P:Program) (x:ResultVar×TypeId):ResultVar×List (Option Nat)×Option (Bool×Nat):=
 (x.1,(fC P x.2).getD [],(match x.1 with | .tmp _=>none | .cell _ u=>(fC P u).map fun _=>(fJ P u,(if fJ P u then P.cellsOf u else 1))))
theorem U8 (st:St) (x:ResultVar×TypeId):st.GG P x=adY st (Ov P x):=by
 obtain ⟨r,t⟩:=x
 cases r with
 | tmp t=>rfl
 | cell a u=>
  simp only [St.GG,adY,Ov]
  cases fC P u<;>rfl
theorem Px:∀(l:List (ResultVar×TypeId)) (st:St),st.results P l=adZ st (La P l)
 | [],st=>rfl
 | x::l,st=>by
  have e:La P (x::l)=Ov P x::La P l:=rfl
  rw [e]
  simp only [St.results,adZ,U8]
  congr 1
  funext v
  cases v with
  | v ag cs=>
   simp only
   congr 1
   funext p
   rw [Px l p.2]
  | _=>rfl
theorem agA (l:List (ResultVar×TypeId)) (st:St):st.ret P l=Xw st (La P l):=by
 match l with
 | []=>simp only [St.ret,La,Xw,Px]
 | [x]=>
  have e:La P [x]=[Ov P x]:=rfl
  have e2:∀st:St,st.MB P x=Lc st (Ov P x):=by
   intro st
   unfold St.MB Lc
   rw [U8]
   rfl
  simp only [St.ret,e,Xw,e2,←U8]
  cases Lc st (Ov P x) with
  | some p=>rfl
  | none=>
   simp only
   cases st.UK (st.GG P x) with
   | some st'=>rfl
   | none=>simp only [Px,e]
 | x::y::l=>
  have e:La P (x::y::l)=Ov P x::Ov P y::La P l:=rfl
  rw [e]
  simp only [St.ret,Xw]
  rw [Px,e]
theorem YL {fn:Func} {args:List Arg} {res:Res} {outs:List Out} {rk:List (ResultVar×List (Option Nat)×Option (Bool×Nat))} (hsz:fn.results.size.beq fn.resultTypes.size=true) (hk:La P (fn.results.toList.zip fn.resultTypes.toList)=rk)
 (hr:Xw st rk=some (res,st2)) (ho:vY cfg (st2.jG cfg f 0 args) f 0 args=some outs):fin P cfg f fn args st=some (res,outs):=by
 unfold fin
 rw [hsz]
 simp only [if_true,agA,hk,hr,Option.bind_some,ho,Option.map_some]
theorem di {fn:Func} {args:List Arg} {r:Res×List Out} (h:fin P cfg f fn args st=some r):Fin P cfg f fn args r (.ret,st):=⟨(fun i e=>by cases e),h⟩
theorem tk0 {ks:List (Option Nat)}:(mk A B).fF ks []=some ([],mk A B):=rfl
theorem tkI {ks:List (Option Nat)} {t:Nat} {a:AV} {rs:List RV} {xs:List CV} (h:(mk A B).fF ks.tail rs=some (xs,mk A' B')):(mk A B).fF ks (.im t a::rs)=some (⟨.imm,dm t a,a⟩::xs,mk A' B'):=by
 simp only [St.fF,St.take,Option.bind_some,h,Option.map_some]
theorem tkN {ks:List (Option Nat)} {rs:List RV} {xs:List CV} (h:(mk A B).fF ks.tail rs=some (xs,mk A' B')):(mk A B).fF ks (.nil::rs)=some (⟨.sh,0,.row ((ks.head?.bind id).getD 0) []⟩::xs,mk A' B'):=by
 simp only [St.fF,St.take,Option.bind_some,h,Option.map_some]
theorem tkO {ks:List (Option Nat)} {o s c:Nat} {ob:Obj} {t:Nat} {a:AV} {rs:List RV} {xs:List CV} (hL:look none B o=some ob) (hc:ob.cs[c]?=some ⟨.sh,s,t,a⟩)
 (h:(mk A ((o,some (ob.bQ c .gone))::B)).fF ks.tail rs=some (xs,mk A' B')):(mk A B).fF ks (.own o s c::rs)=some (⟨.sh,t,a⟩::xs,mk A' B'):=by
 simp only [St.fF,Qw hL hc,Option.bind_some,h,Option.map_some]
theorem fx0 {ks:List (Option Nat)}:(mk A B).iM ks []=some (0,[],mk A B):=rfl
theorem fxI {ks:List (Option Nat)} {t t2:Nat} {a:AV} {rs:List RV} {as:List AV} (h:(mk A B).iM ks.tail rs=some (t2,as,mk A' B')):(mk A B).iM ks (.im t a::rs)=some (Nat.max (dm t a) t2,a::as,mk A' B'):=by
 simp only [St.iM,St.fix,St.view,Option.map_some,Option.bind_some,St.freeze,h]
theorem fxN {ks:List (Option Nat)} {t2:Nat} {rs:List RV} {as:List AV} (h:(mk A B).iM ks.tail rs=some (t2,as,mk A' B')):(mk A B).iM ks (.nil::rs)=some (Nat.max 0 t2,.row ((ks.head?.bind id).getD 0) []::as,mk A' B'):=by
 simp only [St.iM,St.fix,St.view,Option.map_some,Option.bind_some,St.freeze,h]
theorem fxO {ks:List (Option Nat)} {o s c:Nat} {ob:Obj} {t t2:Nat} {a:AV} {rs:List RV} {as:List AV} (hL:look none B o=some ob) (hc:ob.cs[c]?=some ⟨.sh,s,t,a⟩)
 (h:(mk A ((o,some (ob.bQ c .imm))::B)).iM ks.tail rs=some (t2,as,mk A' B')):(mk A B).iM ks (.own o s c::rs)=some (Nat.max t t2,a::as,mk A' B'):=by
 simp only [St.iM,St.fix,St.view,St.freeze,qK hL hc rfl,Option.map_some,Option.bind_some]
 have:(mk A B).setObj o (ob.bQ c .imm)=mk A ((o,some (ob.bQ c .imm))::B):=rfl
 rw [this,h]
 rfl
theorem pt0 {ag:Bool} {ks:List (Option Nat)} {sz k:Nat}:(mk A B).parts ag ks sz k []=some (0,[],mk A B):=rfl
theorem ptC {ag ag':Bool} {ks:List (Option Nat)} {sz k i t t2:Nat} {cs:List RV} {as:List AV} {e:AV} {es:List AV} {ps:List (Nat×SV)} (hi:(i.beq k&&cs.length.beq sz)=true) (hf:(mk A B).iM ks cs=some (t,as,mk A1 B1)) (he:AV.jO ag as=some e)
 (h:(mk A1 B1).parts ag ks sz (k+1) ps=some (t2,es,mk A' B')):(mk A B).parts ag ks sz k ((i,.v ag' cs)::ps)=some (Nat.max t t2,e::es,mk A' B'):=by
 simp only [St.parts,hi,if_true,hf,Option.bind_some,he,h,Option.map_some]
theorem oSt {t:TypeId} {x y:Operand} {zs:List RV} {ks:List (Option Nat)} {ag ag':Bool} {n o s off:Nat} {cs:List RV} {xs:List CV} {ob:Obj} (hT:tyF P t=some (zs,ks,ag,n)) (hx:(mk A B).get x= .v false [.mp o s off]) (hy:(mk A B).get y= .v ag' cs) (hn:cs.length.beq n=true)
 (ht:(mk A B).fF ks cs=some (xs,mk A' B')) (hL:look none B' o=some ob) (hs:ob.gen=s) (hok:(ob.mem&&!ob.fz&&Nat.ble (off+xs.length) ob.cs.length)=true):
 aH P cfg C nt ⟨none,.store t x y,ty,pos,aft,gd⟩ (mk A B)=some (mk A' ((o,some {ob with ctr:=ob.ctr+1,cs:=Sim.splice ob.cs off (xs.map (CV.at (ob.ctr+1)))})::B')):=by
 unfold tyF at hT
 obtain ⟨z,h1,hT⟩:=Option.bind_eq_some_iff.1 hT
 obtain ⟨k,h2,hT⟩:=Option.map_eq_some_iff.1 hT
 cases hT
 have e:(mk A' B').obj o s=some ob:=by
  unfold St.obj
  have e:(mk A' B').L o=look none B' o:=rfl
  rw [e,hL]
  simp only [Option.bind_some,hs,Nat.beq_refl,cond]
 simp only [aH,Option.isSome_none,Bool.false_eq_true,if_false,hx,SV.one?,Option.bind_some,hy,hn,if_true,h2,St.store,ht,e,hok]
 rfl
theorem G5 {st:St} {o s c:Nat}:st.Jw o s c=true↔∃ob n i j t a,st.L o=some ob∧ob.cs[c]?=some ⟨.dd n i j,s,t,a⟩:=by
 constructor
 ·intro h
  unfold St.Jw at h
  split at h
  ·rename_i ob n i j s' t a hc
   obtain ⟨ob',h1,h2⟩:=Option.bind_eq_some_iff.1 hc
   obtain ⟨x,h3,h4⟩:=Option.bind_eq_some_iff.1 h2
   cases hb:x.s.beq s with
   | false=>rw [hb] at h4;cases h4
   | true=>
    rw [hb] at h4
    cases h4
    have:=Nat.eq_of_beq_eq_true hb
    simp only at this
    subst this
    exact ⟨ob,n,i,j,t,a,h1,h3⟩
  ·cases h
 ·rintro ⟨ob,n,i,j,t,a,h1,h2⟩
  have:st.cell o s c=some (ob,⟨.dd n i j,s,t,a⟩):=by simp only [St.cell,h1,Option.bind_some,h2,Nat.beq_refl,cond]
  unfold St.Jw
  rw [this]
theorem abY {st:St} {o s c:Nat} (h:st.Jw o s c=true) (r:RV):(st.freeze r).Jw o s c=true:=by
 obtain ⟨ob,n,i,j,t,a,h1,h2⟩:=G5.1 h
 have cell:∀{o' s' c':Nat} {ob':Obj} {x:Cell} {m:OM},st.cell o' s' c'=some (ob',x)→(∀n i j,x.m≠ .dd n i j)→(st.setObj o' (ob'.bQ c' m)).Jw o s c=true:=by
  intro o' s' c' ob' x m hc hm
  obtain ⟨ob2,k1,k2⟩:=Option.bind_eq_some_iff.1 hc
  obtain ⟨y,k3,k4⟩:=Option.bind_eq_some_iff.1 k2
  have e:ob2=ob'∧y=x:=by
   cases hb:y.s.beq s' with
   | false=>rw [hb] at k4;cases k4
   | true=>rw [hb] at k4;cases k4;exact ⟨rfl,rfl⟩
  obtain ⟨rfl,rfl⟩:=e
  by_cases eo:o=o'
  ·subst eo
   rw [h1] at k1;cases k1
   have ec:c'≠c:=by
    intro ec
    subst ec
    rw [h2] at k3;cases k3
    exact hm _ _ _ rfl
   exact G5.2 ⟨_,n,i,j,t,a,upd_same _ _ _,by simp only [Obj.bQ,List.getElem?_modify_ne _ _ ec];exact h2⟩
  ·exact G5.2 ⟨ob,n,i,j,t,a,by simp only [St.setObj,upd_ne _ _ eo];exact h1,h2⟩
 cases r with
 | own o' s' c' | sub o' s' c' lo hi | mpe o' s' c' lo hi=>
  simp only [St.freeze]
  split
  ·rename_i hc;exact cell hc (by simp)
  ·rename_i hc;exact cell hc (by simp)
  ·exact h
 | mp o' s' off=>
  simp only [St.freeze]
  split
  ·rename_i ob' hc
   by_cases eo:o=o'
   ·subst eo
    obtain ⟨ob2,k1,k2⟩:=Option.bind_eq_some_iff.1 hc
    rw [h1] at k1;cases k1
    have:ob=ob':=by
     cases hb:ob.gen.beq s' with
     | false=>rw [hb] at k2;cases k2
     | true=>rw [hb] at k2;cases k2;rfl
    subst this
    exact G5.2 ⟨_,n,i,j,t,a,upd_same _ _ _,by simp only [List.getElem?_map,h2];rfl⟩
   ·exact G5.2 ⟨ob,n,i,j,t,a,by simp only [St.setObj,upd_ne _ _ eo];exact h1,h2⟩
  ·exact h
 | _=>exact h
theorem Us {o s c:Nat}:∀(rs:List RV) {st st':St} {ks:List (Option Nat)} {t:Nat} {as:List AV},st.iM ks rs=some (t,as,st')→st.Jw o s c=true→st'.Jw o s c=true
 | [],st,st',ks,t,as,e,h=>by cases e;exact h
 | r::rs,st,st',ks,t,as,e,h=>by
  simp only [St.iM] at e
  obtain ⟨⟨t1,a1,st1⟩,e1,e⟩:=Option.bind_eq_some_iff.1 e
  obtain ⟨⟨t2,as2,st2⟩,e2,e⟩:=Option.map_eq_some_iff.1 e
  cases e
  obtain ⟨x,_,e1⟩:=Option.map_eq_some_iff.1 e1
  cases e1
  exact Us rs e2 (abY h r)
theorem Qz {α:Type} {t:TypeId} {x y:Operand} {zs:List RV} {ks:List (Option Nat)} {ag ag':Bool} {n o s c i off tg t2 z:Nat} {cs:List RV} {as:List AV} {ob:Obj} {L:List α} {en:α→AV} {v v':α} (hT:tyF P t=some (zs,ks,ag,n)) (hx:(mk A B).get x= .v false [.mpe o s c i off]) (hy:(mk A B).get y= .v ag' cs) (hn:cs.length.beq n=true)
 (ht:(mk A B).iM ks cs=some (tg,as,mk A' B')) (hL:look none B' o=some ob) (hc:ob.cs[c]?=some ⟨.sh,s,t2,.row z (L.map en)⟩) (hv:L[i]?=some v) (hs:(en v).splice off as=some (en v')):
 aH P cfg C nt ⟨none,.store t x y,ty,pos,aft,gd⟩ (mk A B)=some (mk A' ((o,some {ob with cs:=ob.cs.set c ⟨.sh,s,Nat.max tg t2,.row z ((L.set i v').map en)⟩})::B')):=by
 unfold tyF at hT
 obtain ⟨z,h1,hT⟩:=Option.bind_eq_some_iff.1 hT
 obtain ⟨k,h2,hT⟩:=Option.map_eq_some_iff.1 hT
 cases hT
 have hdd:¬(mk A B).Jw o s c=true:=by
  intro hdd
  have:=Us _ ht hdd
  unfold St.Jw at this
  rw [qK hL hc rfl] at this
  cases this
 simp only [aH,Option.isSome_none,Bool.false_eq_true,if_false,hx,SV.one?,Option.bind_some,hy,hn,if_true,h2,St.store,if_neg hdd,ht,qK hL hc rfl,List.getElem?_map,hv,Option.map_some,hs,List.map_set]
 rfl
theorem oH {α:Type} {L:List α} {i:Int} {v:α} (h:rd L i=some v):L[i.toNat]?=some v:=(Qx.1 h).2
def bnd (st:St):Option Operand→Option (Option Int)
 | none=>some none
 | some y=>(st.get y).int?.map fun p=>some p.2
theorem alC {t:TypeId} {x:Operand} {lo hi:Option Operand} {l h:Option Int} (hl:bnd (mk A B) lo=some l) (hh:bnd (mk A B) hi=some h):
 aH P cfg C nt ⟨some d,.slice t x lo hi none,ty,pos,aft,gd⟩ (mk A B)=(match P.underlying t,(mk A B).get x with
 | some .string,.v false [.im _ (.sc (.string s))]=>
  (match l with | none=>some 0 | some l=>vU l).bind fun l=>(match h with | none=>some s.size | some h=>vU h).bind fun h=>
    if Nat.ble l h&&Nat.ble h s.size then (if Nat.blt d nt then some ((mk A B).cZ d (.im 0 (.sc (.string (s.extract l h))))) else none) else none
 | some (.slice e),.v false [r]=>(P.info? e).bind fun inf=>((mk A B).reslice inf.size r l h).bind fun r=>(if Nat.blt d nt then some ((mk A B).cZ d (.v false [r])) else none)
 | _,_=>none):=by
 cases lo with
 | none=>
  cases hl
  cases hi with
  | none=>cases hh;rfl
  | some y=>simp only [bnd] at hh;simp only [aH,hh,Option.bind_some];rfl
 | some x=>
  simp only [bnd] at hl
  cases hi with
  | none=>cases hh;simp only [aH,hl,Option.bind_some];rfl
  | some y=>simp only [bnd] at hh;simp only [aH,hl,hh,Option.bind_some];rfl
section
variable (hd:Nat.blt d nt=true)
include hd
theorem Z7 {α:Type} {t:TypeId} {x y:Operand} {e sz b:Nat} {ks:List (Option Nat)} {ag:Bool} {zs:List RV} {k1 k2:IntKind} {t1 t2 tg tg':Nat} {n:Int} {z:α} {en:α→AV} {r:List α} {as:List AV} {m:OM} (hr:mkl b n z=some r) (hb:Nat.blt 0 b=true) (hT:gm P t=some (e,sz,ks,ag,b,zs))
 (hx:(mk A B).get x= .v false [.im t1 (.sc (.int k1 n))]) (hy:(mk A B).get y= .v false [.im t2 (.sc (.int k2 n))]) (hf:(mk A B).iM ks zs=some (tg,as,mk A' B')) (he:AV.jO ag as=some (en z)) (ht:fK ks tg [en z]=tg') (hm':(bif cfg.deep nt d&&zs.all RV.nul then OM.dp 0 else OM.sh)=m):
 aH P cfg C nt ⟨some d,.makeSlice t x y,ty,pos,aft,gd⟩ (mk A B)=some (mk ((d,.v false [.own d (ja B' d).2 0])::A') ((d,some (zg (ja B' d) false false [⟨m,tg',.row sz (r.map en)⟩]))::B')):=by
 subst hm'
 unfold gm at hT
 obtain ⟨p,h1,hT⟩:=Option.bind_eq_some_iff.1 hT
 obtain ⟨z',h2,hT⟩:=Option.bind_eq_some_iff.1 hT
 split at hT
 ·cases hT
 ·rename_i hl
  obtain ⟨k,h3,hT⟩:=Option.map_eq_some_iff.1 hT
  cases hT
  unfold mkl at hr
  split at hr
  ·rename_i hn
   cases hr
   have hb':0<P.bytesOf p.1:=Nat.le_of_ble_eq_true hb
   have hm:n.toNat≤n.toNat*P.bytesOf p.1:=Nat.le_mul_of_pos_right _ hb'
   have hroom:room n.toNat (P.bytesOf p.1)=true:=by
    unfold room
    rw [hb,Nat.ble_eq_true_of_le hn.2]
    rfl
   have hcond:True∧room n.toNat (P.bytesOf p.1)=true∧n<9223372036854775808:=⟨trivial,hroom,by have:=hn.2;omega⟩
   simp only [aH,hd,if_true,Option.bind_some,h1,h2,if_neg hl,h3,hx,hy,SV.int?,vU,if_pos hn.1,if_pos hcond,hf,he,Option.map_some,AO,ht,List.map_replicate]
   rfl
  ·cases hr
theorem oMk {α:Type} {t:TypeId} {x y:Operand} {e sz b:Nat} {ks:List (Option Nat)} {ag:Bool} {zs:List RV} {k1 k2:IntKind} {t1 t2 tg tg':Nat} {n:Int} {z:α} {en:α→AV} {r:List α} {as:List AV} (hr:mkl b n z=some r) (hb:Nat.blt 0 b=true) (hT:gm P t=some (e,sz,ks,ag,b,zs))
 (hx:(mk A B).get x= .v false [.im t1 (.sc (.int k1 n))]) (hy:(mk A B).get y= .v false [.im t2 (.sc (.int k2 n))]) (hf:(mk A B).iM ks zs=some (tg,as,mk A' B')) (he:AV.jO ag as=some (en z)) (ht:fK ks tg [en z]=tg') (hm:(cfg.deep nt d&&zs.all RV.nul)=false:=by exact rfl):
 aH P cfg C nt ⟨some d,.makeSlice t x y,ty,pos,aft,gd⟩ (mk A B)=some (mk ((d,.v false [.own d (ja B' d).2 0])::A') ((d,some (zg (ja B' d) false false [⟨.sh,tg',.row sz (r.map en)⟩]))::B')):=
 Z7 hd hr hb hT hx hy hf he ht (by rw [hm];rfl)
theorem aoc {α:Type} {t:TypeId} {x y:Operand} {e sz b:Nat} {ks:List (Option Nat)} {ag:Bool} {zs:List RV} {k1 k2:IntKind} {t1 t2 tg tg':Nat} {n:Int} {z:α} {en:α→AV} {r:List α} {as:List AV} (hr:mkl b n z=some r) (hb:Nat.blt 0 b=true) (hT:gm P t=some (e,sz,ks,ag,b,zs))
 (hx:(mk A B).get x= .v false [.im t1 (.sc (.int k1 n))]) (hy:(mk A B).get y= .v false [.im t2 (.sc (.int k2 n))]) (hf:(mk A B).iM ks zs=some (tg,as,mk A' B')) (he:AV.jO ag as=some (en z)) (ht:fK ks tg [en z]=tg') (hm:(cfg.deep nt d&&zs.all RV.nul)=true:=by exact rfl):
 aH P cfg C nt ⟨some d,.makeSlice t x y,ty,pos,aft,gd⟩ (mk A B)=some (mk ((d,.v false [.own d (ja B' d).2 0])::A') ((d,some (zg (ja B' d) false false [⟨.dp 0,tg',.row sz (r.map en)⟩]))::B')):=
 Z7 hd hr hb hT hx hy hf he ht (by rw [hm];rfl)
end
end
end Go.Sim
