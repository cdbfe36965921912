/- The operations that write and call, the end of a function, regions of many orders: one rule for each shape. Conditions: none. -/
import Derived.Test.YtjejfolfomknaaaSimRb
namespace Go.Sim
open Go.Pw
set_option linter.unusedSimpArgs false
set_option linter.unusedVariables false
def bG (P:Program) (cfg:Cfg) (g:FuncId) (j:Nat):List TypeId→List (PM×List (Option Nat))
 | []=>[]
 | t::ts=>(cfg.par g j,(dw P t).getD [])::bG P cfg g (j+1) ts
def nK (st:St):List (PM×List (Option Nat))→List SV→Option (List (Option Arg)×St)
 | (m,ks)::pk,x::xs=>(st.BG m ks x).bind fun p=>(nK p.2 pk xs).map fun q=>(p.1::q.1,q.2)
 | _,_=>some ([],st)
def MN (st:St):List (PM×List (Option Nat))→List SV→List (Option Arg)→Option Gi
 | (m,ks)::pk,x::xs,a::as=>(st.see m ks x a).bind fun p=>(MN st pk xs as).map fun q=>⟨p.arg::q.args,p.bor++q.bor,p.iV++q.iV,Nat.max p.tag q.tag,Nat.max p.gq q.gq⟩
 | [],[],[]=>some ⟨[],[],[],0,0⟩
 | _,_,_=>none
def fG (P:Program):List (ResultVar×TypeId)→List (ResultVar×List (Option Nat)×Option (Bool×Nat))
 | []=>[]
 | (r,t)::l=>(r,(dw P t).getD [],(match r with | .tmp _=>none | .cell _ u=>(dw P u).map fun _=>(dI P u,(if dI P u then P.cellsOf u else 1))))::fG P l
def TD (st:St):ResultVar×List (Option Nat)×Option (Bool×Nat)→Option SV
 | (.tmp t,_)=>some (st.sl t)
 | (.cell a _,_,ld)=>ld.bind fun q=>(st.get (.tmp a)).one?.bind fun r=>st.load q.1 q.2 r
def TE (st:St):List (ResultVar×List (Option Nat)×Option (Bool×Nat))→Option (Res×St)
 | []=>some ([],st)
 | x::rs=>(TD st x).bind fun
  | .v ag cs=>(st.Ac x.2.1 cs).bind fun p=>(TE p.2 rs).map fun (q:Res×St)=>((ag,p.1)::q.1,q.2)
  | _=>none
def D7 (st:St) (x:ResultVar×List (Option Nat)×Option (Bool×Nat)):Option (Bool×List CV):=
 match TD st x with
 | some (.v false [.mp o s 0])=>(st.obj o s).bind fun ob=>if ob.mem&&!ob.fz&&!ob.io then (Aa ob.cs).map fun cs=>(ob.ag,cs) else none
 | _=>none
def MO (st:St) (l:List (ResultVar×List (Option Nat)×Option (Bool×Nat))):Option (Res×St):=
 match l with
 | [x]=>match D7 st x with
  | some p=>some ([(false,[.pt p.1 p.2])],st)
  | none=>match st.JQ (TD st x) with
   | some st'=>(D7 st' x).map fun p=>([(false,[.pt p.1 p.2])],st')
   | none=>TE st [x]
 | l=>TE st l
noncomputable section
variable {P:Program} {cfg:Cfg} {C:rY} {f nt:Nat} {ops:Array Oper} {l:List Oper} {st st1 st2 X:St} {A A' A1 A2:List (Nat×SV)} {B B' B1 B2:List (Nat×Option Obj)}
variable {d:Nat} {op:Op} {dst:Option Tmp} {ty:TypeId} {pos:String} {aft:Array Edge} {gd:Option (Nat×Bool)}
theorem aag {α:Type} {a b:Option α} {x:α} (h:a=some x):a.or b=some x:=by rw [h];rfl
theorem Ic (g:FuncId):∀(ts:List TypeId) (xs:List SV) (j:Nat) (st:St),ts.length=xs.length→st.pU P cfg g j (ts.zip xs)=nK st (bG P cfg g j ts) xs
 | [],[],j,st,_=>rfl
 | t::ts,x::xs,j,st,h=>by
  simp only [List.zip_cons_cons,St.pU,bG,nK]
  congr 1
  funext p
  rw [Ic g ts xs (j+1) p.2 (by simpa using h)]
 | [],_::_,_,_,h=>by cases h
 | _::_,[],_,_,h=>by cases h
theorem JA (g:FuncId) (st:St):∀(ts:List TypeId) (xs:List SV) (as:List (Option Arg)) (j:Nat),ts.length=xs.length→st.pz P cfg g j (ts.zip xs) as=MN st (bG P cfg g j ts) xs as
 | [],[],[],j,_=>rfl
 | [],[],_::_,j,_=>rfl
 | t::ts,x::xs,[],j,h=>by simp only [List.zip_cons_cons,St.pz,bG,MN]
 | t::ts,x::xs,a::as,j,h=>by
  simp only [List.zip_cons_cons,St.pz,bG,MN]
  congr 1
  funext p
  rw [JA g st ts xs as (j+1) (by simpa using h)]
 | [],_::_,_,_,h=>by cases h
 | _::_,[],_,_,h=>by cases h
def FT (P:Program) (x:ResultVar×TypeId):ResultVar×List (Option Nat)×Option (Bool×Nat):=
 (x.1,(dw P x.2).getD [],(match x.1 with | .tmp _=>none | .cell _ u=>(dw P u).map fun _=>(dI P u,(if dI P u then P.cellsOf u else 1))))
theorem Kt (st:St) (x:ResultVar×TypeId):st.Ad P x=TD st (FT P x):=by
 obtain ⟨r,t⟩:=x
 cases r with
 | tmp t=>rfl
 | cell a u=>
  simp only [St.Ad,TD,FT]
  cases dw P u<;>rfl
theorem Gn:∀(l:List (ResultVar×TypeId)) (st:St),st.results P l=TE st (fG P l)
 | [],st=>rfl
 | x::l,st=>by
  have e:fG P (x::l)=FT P x::fG P l:=rfl
  rw [e]
  simp only [St.results,TE,Kt]
  congr 1
  funext v
  cases v with
  | v ag cs=>
   simp only
   congr 1
   funext p
   rw [Gn l p.2]
  | _=>rfl
theorem U9 (l:List (ResultVar×TypeId)) (st:St):st.ret P l=MO st (fG P l):=by
 match l with
 | []=>simp only [St.ret,fG,MO,Gn]
 | [x]=>
  have e:fG P [x]=[FT P x]:=rfl
  have e2:∀st:St,st.Ez P x=D7 st (FT P x):=by
   intro st
   unfold St.Ez D7
   rw [Kt]
   rfl
  simp only [St.ret,e,MO,e2,←Kt]
  cases D7 st (FT P x) with
  | some p=>rfl
  | none=>
   simp only
   cases st.JQ (st.Ad P x) with
   | some st'=>rfl
   | none=>simp only [Gn,e]
 | x::y::l=>
  have e:fG P (x::y::l)=FT P x::FT P y::fG P l:=rfl
  rw [e]
  simp only [St.ret,MO]
  rw [Gn,e]
theorem CW {fn:Func} {args:List Arg} {res:Res} {outs:List Out} {rk:List (ResultVar×List (Option Nat)×Option (Bool×Nat))} (hsz:fn.results.size.beq fn.resultTypes.size=true) (hk:fG P (fn.results.toList.zip fn.resultTypes.toList)=rk)
 (hr:MO st rk=some (res,st2)) (ho:pF cfg (st2.iO cfg f 0 args) f 0 args=some outs):fin P cfg f fn args st=some (res,outs):=by
 unfold fin
 rw [hsz]
 simp only [if_true,U9,hk,hr,Option.bind_some,ho,Option.map_some]
theorem vg {fn:Func} {args:List Arg} {r:Res×List Out} (h:fin P cfg f fn args st=some r):Fin P cfg f fn args r (.ret,st):=⟨(fun i e=>by cases e),h⟩
theorem Gp {fn:Func} {args:List Arg} {r:Res×List Out} (h:fin P cfg f fn args st=some r):Fin P cfg f fn args r (.normal,st):=⟨(fun i e=>by cases e),h⟩
theorem tk0 {ks:List (Option Nat)}:(mk A B).fU ks []=some ([],mk A B):=rfl
theorem tkI {ks:List (Option Nat)} {t:Nat} {a:AV} {rs:List RV} {xs:List CV} (h:(mk A B).fU ks.tail rs=some (xs,mk A' B')):(mk A B).fU ks (.im t a::rs)=some (⟨.imm,aY t a,a⟩::xs,mk A' B'):=by
 simp only [St.fU,St.take,Option.bind_some,h,Option.map_some]
theorem tkN {ks:List (Option Nat)} {rs:List RV} {xs:List CV} (h:(mk A B).fU ks.tail rs=some (xs,mk A' B')):(mk A B).fU ks (.nil::rs)=some (⟨.sh,0,.row ((ks.head?.bind id).getD 0) []⟩::xs,mk A' B'):=by
 simp only [St.fU,St.take,Option.bind_some,h,Option.map_some]
theorem tkO {ks:List (Option Nat)} {o s c:Nat} {ob:Obj} {t:Nat} {a:AV} {rs:List RV} {xs:List CV} (hL:look none B o=some ob) (hc:ob.cs[c]?=some ⟨.sh,s,t,a⟩)
 (h:(mk A ((o,some (ob.bf c .gone))::B)).fU ks.tail rs=some (xs,mk A' B')):(mk A B).fU ks (.own o s c::rs)=some (⟨.sh,t,a⟩::xs,mk A' B'):=by
 simp only [St.fU,ja hL hc,Option.bind_some,h,Option.map_some]
theorem fx0 {ks:List (Option Nat)}:(mk A B).fQ ks []=some (0,[],mk A B):=rfl
theorem fxI {ks:List (Option Nat)} {t t2:Nat} {a:AV} {rs:List RV} {as:List AV} (h:(mk A B).fQ ks.tail rs=some (t2,as,mk A' B')):(mk A B).fQ ks (.im t a::rs)=some (Nat.max (aY t a) t2,a::as,mk A' B'):=by
 simp only [St.fQ,St.fix,St.view,Option.map_some,Option.bind_some,St.freeze,h]
theorem fxN {ks:List (Option Nat)} {t2:Nat} {rs:List RV} {as:List AV} (h:(mk A B).fQ ks.tail rs=some (t2,as,mk A' B')):(mk A B).fQ ks (.nil::rs)=some (Nat.max 0 t2,.row ((ks.head?.bind id).getD 0) []::as,mk A' B'):=by
 simp only [St.fQ,St.fix,St.view,Option.map_some,Option.bind_some,St.freeze,h]
theorem fxO {ks:List (Option Nat)} {o s c:Nat} {ob:Obj} {t t2:Nat} {a:AV} {rs:List RV} {as:List AV} (hL:look none B o=some ob) (hc:ob.cs[c]?=some ⟨.sh,s,t,a⟩)
 (h:(mk A ((o,some (ob.bf c .imm))::B)).fQ ks.tail rs=some (t2,as,mk A' B')):(mk A B).fQ ks (.own o s c::rs)=some (Nat.max t t2,a::as,mk A' B'):=by
 simp only [St.fQ,St.fix,St.view,St.freeze,xI hL hc rfl,Option.map_some,Option.bind_some]
 have:(mk A B).setObj o (ob.bf c .imm)=mk A ((o,some (ob.bf c .imm))::B):=rfl
 rw [this,h]
 rfl
theorem pt0 {ag:Bool} {ks:List (Option Nat)} {sz k:Nat}:(mk A B).parts ag ks sz k []=some (0,[],mk A B):=rfl
theorem ptC {ag ag':Bool} {ks:List (Option Nat)} {sz k i t t2:Nat} {cs:List RV} {as:List AV} {e:AV} {es:List AV} {ps:List (Nat×SV)} (hi:(i.beq k&&cs.length.beq sz)=true) (hf:(mk A B).fQ ks cs=some (t,as,mk A1 B1)) (he:AV.jB ag as=some e)
 (h:(mk A1 B1).parts ag ks sz (k+1) ps=some (t2,es,mk A' B')):(mk A B).parts ag ks sz k ((i,.v ag' cs)::ps)=some (Nat.max t t2,e::es,mk A' B'):=by
 simp only [St.parts,hi,if_true,hf,Option.bind_some,he,h,Option.map_some]
theorem oSt {t:TypeId} {x y:Operand} {zs:List RV} {ks:List (Option Nat)} {ag ag':Bool} {n o s off:Nat} {cs:List RV} {xs:List CV} {ob:Obj} (hT:tyF P t=some (zs,ks,ag,n)) (hx:(mk A B).get x= .v false [.mp o s off]) (hy:(mk A B).get y= .v ag' cs) (hn:cs.length.beq n=true)
 (ht:(mk A B).fU ks cs=some (xs,mk A' B')) (hL:look none B' o=some ob) (hs:ob.gen=s) (hok:(ob.mem&&!ob.fz&&Nat.ble (off+xs.length) ob.cs.length)=true):
 aF P cfg C nt ⟨none,.store t x y,ty,pos,aft,gd⟩ (mk A B)=some (mk A' ((o,some {ob with ctr:=ob.ctr+1,cs:=Sim.splice ob.cs off (xs.map (CV.at (ob.ctr+1)))})::B')):=by
 unfold tyF at hT
 obtain ⟨z,h1,hT⟩:=Option.bind_eq_some_iff.1 hT
 obtain ⟨k,h2,hT⟩:=Option.map_eq_some_iff.1 hT
 cases hT
 have e:(mk A' B').obj o s=some ob:=by
  unfold St.obj
  have e:(mk A' B').L o=look none B' o:=rfl
  rw [e,hL]
  simp only [Option.bind_some,hs,Nat.beq_refl,cond]
 simp only [aF,Option.isSome_none,Bool.false_eq_true,if_false,hx,SV.one?,Option.bind_some,hy,hn,if_true,h2,St.store,ht,e,hok]
 rfl
theorem AA {st:St} {o s c:Nat}:st.Dy o s c=true↔∃ob n i j t a,st.L o=some ob∧ob.cs[c]?=some ⟨.dd n i j,s,t,a⟩:=by
 constructor
 ·intro h
  unfold St.Dy at h
  split at h
  ·rename_i ob n i j s' t a hc
   obtain ⟨ob',h1,h2⟩:=Option.bind_eq_some_iff.1 hc
   obtain ⟨x,h3,h4⟩:=Option.bind_eq_some_iff.1 h2
   cases hb:x.s.beq s with
   | false=>rw [hb] at h4;cases h4
   | true=>
    rw [hb] at h4
    cases h4
    have:=Nat.eq_of_beq_eq_true hb
    simp only at this
    subst this
    exact ⟨ob,n,i,j,t,a,h1,h3⟩
  ·cases h
 ·rintro ⟨ob,n,i,j,t,a,h1,h2⟩
  have:st.cell o s c=some (ob,⟨.dd n i j,s,t,a⟩):=by simp only [St.cell,h1,Option.bind_some,h2,Nat.beq_refl,cond]
  unfold St.Dy
  rw [this]
theorem QW {st:St} {o s c:Nat} (h:st.Dy o s c=true) (r:RV):(st.freeze r).Dy o s c=true:=by
 obtain ⟨ob,n,i,j,t,a,h1,h2⟩:=AA.1 h
 have cell:∀{o' s' c':Nat} {ob':Obj} {x:Cell} {m:OM},st.cell o' s' c'=some (ob',x)→(∀n i j,x.m≠ .dd n i j)→(st.setObj o' (ob'.bf c' m)).Dy o s c=true:=by
  intro o' s' c' ob' x m hc hm
  obtain ⟨ob2,k1,k2⟩:=Option.bind_eq_some_iff.1 hc
  obtain ⟨y,k3,k4⟩:=Option.bind_eq_some_iff.1 k2
  have e:ob2=ob'∧y=x:=by
   cases hb:y.s.beq s' with
   | false=>rw [hb] at k4;cases k4
   | true=>rw [hb] at k4;cases k4;exact ⟨rfl,rfl⟩
  obtain ⟨rfl,rfl⟩:=e
  by_cases eo:o=o'
  ·subst eo
   rw [h1] at k1;cases k1
   have ec:c'≠c:=by
    intro ec
    subst ec
    rw [h2] at k3;cases k3
    exact hm _ _ _ rfl
   exact AA.2 ⟨_,n,i,j,t,a,upd_same _ _ _,by simp only [Obj.bf,List.getElem?_modify_ne _ _ ec];exact h2⟩
  ·exact AA.2 ⟨ob,n,i,j,t,a,by simp only [St.setObj,upd_ne _ _ eo];exact h1,h2⟩
 cases r with
 | own o' s' c' | sub o' s' c' lo hi | mpe o' s' c' lo hi=>
  simp only [St.freeze]
  split
  ·rename_i hc;exact cell hc (by simp)
  ·rename_i hc;exact cell hc (by simp)
  ·exact h
 | mp o' s' off=>
  simp only [St.freeze]
  split
  ·rename_i ob' hc
   by_cases eo:o=o'
   ·subst eo
    obtain ⟨ob2,k1,k2⟩:=Option.bind_eq_some_iff.1 hc
    rw [h1] at k1;cases k1
    have:ob=ob':=by
     cases hb:ob.gen.beq s' with
     | false=>rw [hb] at k2;cases k2
     | true=>rw [hb] at k2;cases k2;rfl
    subst this
    exact AA.2 ⟨_,n,i,j,t,a,upd_same _ _ _,by simp only [List.getElem?_map,h2];rfl⟩
   ·exact AA.2 ⟨ob,n,i,j,t,a,by simp only [St.setObj,upd_ne _ _ eo];exact h1,h2⟩
  ·exact h
 | _=>exact h
theorem JB {o s c:Nat}:∀(rs:List RV) {st st':St} {ks:List (Option Nat)} {t:Nat} {as:List AV},st.fQ ks rs=some (t,as,st')→st.Dy o s c=true→st'.Dy o s c=true
 | [],st,st',ks,t,as,e,h=>by cases e;exact h
 | r::rs,st,st',ks,t,as,e,h=>by
  simp only [St.fQ] at e
  obtain ⟨⟨t1,a1,st1⟩,e1,e⟩:=Option.bind_eq_some_iff.1 e
  obtain ⟨⟨t2,as2,st2⟩,e2,e⟩:=Option.map_eq_some_iff.1 e
  cases e
  obtain ⟨x,_,e1⟩:=Option.map_eq_some_iff.1 e1
  cases e1
  exact JB rs e2 (QW h r)
theorem MP {α:Type} {t:TypeId} {x y:Operand} {zs:List RV} {ks:List (Option Nat)} {ag ag':Bool} {n o s c i off tg t2 z:Nat} {cs:List RV} {as:List AV} {ob:Obj} {L:List α} {en:α→AV} {v v':α} (hT:tyF P t=some (zs,ks,ag,n)) (hx:(mk A B).get x= .v false [.mpe o s c i off]) (hy:(mk A B).get y= .v ag' cs) (hn:cs.length.beq n=true)
 (ht:(mk A B).fQ ks cs=some (tg,as,mk A' B')) (hL:look none B' o=some ob) (hc:ob.cs[c]?=some ⟨.sh,s,t2,.row z (L.map en)⟩) (hv:L[i]?=some v) (hs:(en v).splice off as=some (en v')):
 aF P cfg C nt ⟨none,.store t x y,ty,pos,aft,gd⟩ (mk A B)=some (mk A' ((o,some {ob with cs:=ob.cs.set c ⟨.sh,s,Nat.max tg t2,.row z ((L.set i v').map en)⟩})::B')):=by
 unfold tyF at hT
 obtain ⟨z,h1,hT⟩:=Option.bind_eq_some_iff.1 hT
 obtain ⟨k,h2,hT⟩:=Option.map_eq_some_iff.1 hT
 cases hT
 have hdd:¬(mk A B).Dy o s c=true:=by
  intro hdd
  have:=JB _ ht hdd
  unfold St.Dy at this
  rw [xI hL hc rfl] at this
  cases this
 simp only [aF,Option.isSome_none,Bool.false_eq_true,if_false,hx,SV.one?,Option.bind_some,hy,hn,if_true,h2,St.store,if_neg hdd,ht,xI hL hc rfl,List.getElem?_map,hv,Option.map_some,hs,List.map_set]
 rfl
theorem jT {α:Type} {L:List α} {i:Int} {v:α} (h:rd L i=some v):L[i.toNat]?=some v:=(Og.1 h).2
def bnd (st:St):Option Operand→Option (Option Int)
 | none=>some none
 | some y=>(st.get y).int?.map fun p=>some p.2
theorem Yz {t:TypeId} {x:Operand} {lo hi:Option Operand} {l h:Option Int} (hl:bnd (mk A B) lo=some l) (hh:bnd (mk A B) hi=some h):
 aF P cfg C nt ⟨some d,.slice t x lo hi none,ty,pos,aft,gd⟩ (mk A B)=(match P.underlying t,(mk A B).get x with
 | some .string,.v false [.im _ (.sc (.string s))]=>
  (match l with | none=>some 0 | some l=>pg l).bind fun l=>(match h with | none=>some s.size | some h=>pg h).bind fun h=>
    if Nat.ble l h&&Nat.ble h s.size then (if Nat.blt d nt then some ((mk A B).aV d (.im 0 (.sc (.string (s.extract l h))))) else none) else none
 | some (.slice e),.v false [r]=>(P.info? e).bind fun inf=>((mk A B).reslice inf.size r l h).bind fun r=>(if Nat.blt d nt then some ((mk A B).aV d (.v false [r])) else none)
 | _,_=>none):=by
 cases lo with
 | none=>
  cases hl
  cases hi with
  | none=>cases hh;rfl
  | some y=>simp only [bnd] at hh;simp only [aF,hh,Option.bind_some];rfl
 | some x=>
  simp only [bnd] at hl
  cases hi with
  | none=>cases hh;simp only [aF,hl,Option.bind_some];rfl
  | some y=>simp only [bnd] at hh;simp only [aF,hl,hh,Option.bind_some];rfl
section
variable (hd:Nat.blt d nt=true)
include hd
theorem Va {α:Type} {t:TypeId} {x y:Operand} {e sz b:Nat} {ks:List (Option Nat)} {ag:Bool} {zs:List RV} {k1 k2:IntKind} {t1 t2 tg tg':Nat} {n:Int} {z:α} {en:α→AV} {r:List α} {as:List AV} {m:OM} (hr:mkl b n z=some r) (hb:Nat.blt 0 b=true) (hT:jr P t=some (e,sz,ks,ag,b,zs))
 (hx:(mk A B).get x= .v false [.im t1 (.sc (.int k1 n))]) (hy:(mk A B).get y= .v false [.im t2 (.sc (.int k2 n))]) (hf:(mk A B).fQ ks zs=some (tg,as,mk A' B')) (he:AV.jB ag as=some (en z)) (ht:bP ks tg [en z]=tg') (hm':(bif cfg.deep nt d&&zs.all RV.nul then OM.dp 0 else OM.sh)=m):
 aF P cfg C nt ⟨some d,.makeSlice t x y,ty,pos,aft,gd⟩ (mk A B)=some (mk ((d,.v false [.own d (iI B' d).2 0])::A') ((d,some (qQ (iI B' d) false false [⟨m,tg',.row sz (r.map en)⟩]))::B')):=by
 subst hm'
 unfold jr at hT
 obtain ⟨p,h1,hT⟩:=Option.bind_eq_some_iff.1 hT
 obtain ⟨z',h2,hT⟩:=Option.bind_eq_some_iff.1 hT
 split at hT
 ·cases hT
 ·rename_i hl
  obtain ⟨k,h3,hT⟩:=Option.map_eq_some_iff.1 hT
  cases hT
  unfold mkl at hr
  split at hr
  ·rename_i hn
   cases hr
   have hb':0<P.bytesOf p.1:=Nat.le_of_ble_eq_true hb
   have hm:n.toNat≤n.toNat*P.bytesOf p.1:=Nat.le_mul_of_pos_right _ hb'
   have hroom:room n.toNat (P.bytesOf p.1)=true:=by
    unfold room
    rw [hb,Nat.ble_eq_true_of_le hn.2]
    rfl
   have hcond:True∧room n.toNat (P.bytesOf p.1)=true∧n<9223372036854775808:=⟨trivial,hroom,by have:=hn.2;omega⟩
   simp only [aF,hd,if_true,Option.bind_some,h1,h2,if_neg hl,h3,hx,hy,SV.int?,pg,if_pos hn.1,if_pos hcond,hf,he,Option.map_some,xQ,ht,List.map_replicate]
   rfl
  ·cases hr
theorem oMk {α:Type} {t:TypeId} {x y:Operand} {e sz b:Nat} {ks:List (Option Nat)} {ag:Bool} {zs:List RV} {k1 k2:IntKind} {t1 t2 tg tg':Nat} {n:Int} {z:α} {en:α→AV} {r:List α} {as:List AV} (hr:mkl b n z=some r) (hb:Nat.blt 0 b=true) (hT:jr P t=some (e,sz,ks,ag,b,zs))
 (hx:(mk A B).get x= .v false [.im t1 (.sc (.int k1 n))]) (hy:(mk A B).get y= .v false [.im t2 (.sc (.int k2 n))]) (hf:(mk A B).fQ ks zs=some (tg,as,mk A' B')) (he:AV.jB ag as=some (en z)) (ht:bP ks tg [en z]=tg') (hm:(cfg.deep nt d&&zs.all RV.nul)=false:=by exact rfl):
 aF P cfg C nt ⟨some d,.makeSlice t x y,ty,pos,aft,gd⟩ (mk A B)=some (mk ((d,.v false [.own d (iI B' d).2 0])::A') ((d,some (qQ (iI B' d) false false [⟨.sh,tg',.row sz (r.map en)⟩]))::B')):=
 Va hd hr hb hT hx hy hf he ht (by rw [hm];rfl)
end
end
end Go.Sim
