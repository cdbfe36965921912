/- The operations, one rule for each shape of its operands: what a printed proof is made of. Conditions: none. -/
import Derived.Test.YtngbehdgjocndaaGreatSimRl
namespace Go.Sim
open Go.Pw
set_option linter.unusedSimpArgs false
set_option linter.unusedVariables false
def eI (n:Int):AV:= .sc (.int .i64 n)
def eK (k:IntKind) (n:Int):AV:= .sc (.int k n)
def eB (b:Bool):AV:= .sc (.bool b)
def eS (s:ByteArray):AV:= .sc (.string s)
def eL {α:Type} (sz:Nat) (e:α→AV) (l:List α):AV:= .row sz (l.map e)
abbrev iv (n:Int):SV:= .v false [.im 0 (.sc (.int .i64 n))]
abbrev bv (b:Bool):SV:= .v false [.im 0 (.sc (.bool b))]
abbrev sv (s:ByteArray):SV:= .v false [.im 0 (.sc (.string s))]
def tyF (P:Program) (t:TypeId):Option (List RV×List (Option Nat)×Bool×Nat):=
 (zeroCells P t).bind fun zs=>(fC P t).map fun ks=>(zs,ks,fJ P t,P.cellsOf t)
def MO (P:Program) (t:TypeId):Option (List RV×List (Nat×Nat)):=
 (zeroCells P t).bind fun zs=>match P.underlying t with
   | some (.struct fs)=>(KG P fs).map fun p=>(zs,p)
   | some (.array n e)=>(P.info? e).map fun inf=>(zs,(List.range n).map fun i=>(i*inf.size,inf.size))
   | _=>none
def gm (P:Program) (t:TypeId):Option (TypeId×Nat×List (Option Nat)×Bool×Nat×List RV):=
 (oG P t).bind fun p=>(zeroCells P p.1).bind fun zs=>if !zs.length.beq p.2 then none else (fC P p.1).map fun ks=>(p.1,p.2,ks,fJ P p.1,P.bytesOf p.1,zs)
def bu (P:Program) (s:TypeId) (f:Nat):Option Nat:=
 match P.underlying s with
 | some (.struct fs)=>(fs[f]?).bind fun fd=>if (P.cellsOf fd.type).beq 0 then none else some fd.offset
 | _=>none
def ja (B:List (Nat×Option Obj)) (d:Nat):Nat×Nat:=match look none B d with | some ob=>(ob.gen+1,ob.ctr+1) | none=>(0,0)
def zg (p:Nat×Nat) (mem ag:Bool) (cs:List CV):Obj:=⟨p.1,p.2,false,mem,false,ag,cs.map (CV.at p.2)⟩
theorem abX {P:Program} {st:St} {t:TypeId} {op:BinOp} {x y:SV} {v:Value} (h:binop st (P.underlying t) op x y=some v):AL P st t op x y=some v:=by
 unfold AL
 split
 ·simp [binop] at h
 ·exact h
noncomputable section
variable {P:Program} {cfg:Cfg} {C:yc} {f nt:Nat} {ops:Array Oper} {l:List Oper} {st st1 st2 X:St} {A A':List (Nat×SV)} {B B':List (Nat×Option Obj)}
variable {d:Nat} {op:Op} {dst:Option Tmp} {ty:TypeId} {pos:String} {aft:Array Edge} {gd:Option (Nat×Bool)}
theorem nl:evL P cfg f nt C ops [] st=some st:=rfl
theorem sq (hz:(cfg.fc f).frz=[]) (h:aH P cfg C nt ⟨dst,op,ty,pos,aft,none⟩ st=some st1) (hr:evL P cfg f nt C ops l st1=some X):evL P cfg f nt C ops (⟨dst,op,ty,pos,aft,none⟩::l) st=some X:=by
 simp only [evL,h,Option.map_some,hz,List.any_nil,cond]
 cases dst<;>exact hr
theorem sqn {fz:List Nat} (hz:(cfg.fc f).frz=fz) (hd:fz.any (·.beq d)=false) (h:aH P cfg C nt ⟨some d,op,ty,pos,aft,none⟩ st=some st1) (hr:evL P cfg f nt C ops l st1=some X):evL P cfg f nt C ops (⟨some d,op,ty,pos,aft,none⟩::l) st=some X:=by
 simp only [evL,h,Option.map_some,hz,hd,cond]
 exact hr
theorem sq0 (h:aH P cfg C nt ⟨none,op,ty,pos,aft,none⟩ st=some st1) (hr:evL P cfg f nt C ops l st1=some X):evL P cfg f nt C ops (⟨none,op,ty,pos,aft,none⟩::l) st=some X:=by
 simp only [evL,h,Option.map_some]
 exact hr
theorem sqf {fz:List Nat} (hz:(cfg.fc f).frz=fz) (hd:fz.any (·.beq d)=true) (h:aH P cfg C nt ⟨some d,op,ty,pos,aft,none⟩ st=some st1) (hf:st1.vV ((fC P ty).getD []) d=st2) (hr:evL P cfg f nt C ops l st2=some X):evL P cfg f nt C ops (⟨some d,op,ty,pos,aft,none⟩::l) st=some X:=by
 simp only [evL,h,Option.map_some,hz,hd,cond,hf]
 exact hr
theorem sgT (hz:(cfg.fc f).frz=[]) {j t dj:Nat} {want v:Bool} (hj:(ops[j]?).bind (·.dst)=some dj) (hb:st.sl dj= .v false [.im t (.sc (.bool v))]) (hv:v=want)
 (h:aH P cfg C nt ⟨dst,op,ty,pos,aft,some (j,want)⟩ st=some st1) (hr:evL P cfg f nt C ops l st1=some X):evL P cfg f nt C ops (⟨dst,op,ty,pos,aft,some (j,want)⟩::l) st=some X:=by
 have hy:yields ops st j=some (some want):=by
  unfold yields
  rw [hj]
  simp only [hb,SV.bool?,hv,Option.map_some]
 simp only [evL,hy,Option.bind_some,if_true,h,Option.map_some,hz,List.any_nil,cond]
 cases dst<;>exact hr
theorem sgF {j t dj:Nat} {want v:Bool} (hj:(ops[j]?).bind (·.dst)=some dj) (hb:(mk A B).sl dj= .v false [.im t (.sc (.bool v))]) (hv:v=!want) (hd:Nat.blt d nt=true)
 (hr:evL P cfg f nt C ops l (mk ((d,.tup [])::A) B)=some X):evL P cfg f nt C ops (⟨some d,op,ty,pos,aft,some (j,want)⟩::l) (mk A B)=some X:=by
 have hy:yields ops (mk A B) j=some (some (!want)):=by
  unfold yields
  rw [hj]
  have hb:look .qC A dj= .v false [.im t (.sc (.bool v))]:=hb
  simp only [hb,SV.bool?,hv,Option.map_some]
 have hne:¬(some (!want)=some want):=by cases want<;>simp
 simp only [evL,hy,Option.bind_some,if_neg hne,hd,if_true]
 exact hr
theorem sgU {j dj:Nat} {want:Bool} (hj:(ops[j]?).bind (·.dst)=some dj) (hb:(mk A B).sl dj= .tup []) (hd:Nat.blt d nt=true)
 (hr:evL P cfg f nt C ops l (mk ((d,.tup [])::A) B)=some X):evL P cfg f nt C ops (⟨some d,op,ty,pos,aft,some (j,want)⟩::l) (mk A B)=some X:=by
 have hy:yields ops (mk A B) j=some none:=by
  unfold yields
  rw [hj]
  have hb:look .qC A dj= .tup []:=hb
  simp only [hb]
 have hne:¬((none:Option Bool)=some want):=by simp
 simp only [evL,hy,Option.bind_some,if_neg hne,hd,if_true]
 exact hr
theorem AO {mem ag:Bool} {cs:List CV}:((mk A B).newObj d mem ag cs)=(mk A ((d,some (zg (ja B d) mem ag cs))::B),(ja B d).1,(ja B d).2):=by
 unfold St.newObj zg ja
 have e:(mk A B).L d=look none B d:=rfl
 rw [e]
 cases look none B d<;>rfl
theorem Qw {sz o s c:Nat} {ob:Obj} {t:Nat} {a:AV} (hL:look none B o=some ob) (hc:ob.cs[c]?=some ⟨.sh,s,t,a⟩):
 (mk A B).take sz (.own o s c)=some (⟨.sh,t,a⟩,mk A ((o,some (ob.bQ c .gone))::B)):=by
 have e:(mk A B).cell o s c=some (ob,⟨.sh,s,t,a⟩):=by
  unfold St.cell
  have e:(mk A B).L o=look none B o:=rfl
  rw [e,hL]
  simp only [Option.bind_some,hc,Nat.beq_refl,cond]
 simp only [St.take,e,Option.bind_some]
 rfl
theorem ajv {k:IntKind} {a b q:Int}:dv k a b=some q↔b≠0∧k.wrap (a.tdiv b)=q:=by
 unfold dv
 by_cases h:b=0<;>simp [h]
theorem ajw {a b q:Int}:md a b=some q↔b≠0∧a.tmod b=q:=by
 unfold md
 by_cases h:b=0<;>simp [h]
theorem bytesOf_map (l:List Int):bytesOf (l.map (eK .u8))=some (l.map fun n=>UInt8.ofNat n.toNat):=by
 induction l with
 | nil=>rfl
 | cons a l ih=>simp only [List.map_cons];show (bytesOf (l.map (eK .u8))).map _=_;rw [ih];rfl
theorem Qx {α:Type} {l:List α} {i:Int} {y:α}:rd l i=some y↔0≤i∧l[i.toNat]?=some y:=by
 unfold rd
 by_cases h:0≤i<;>simp [h]
theorem qK {o s c:Nat} {ob:Obj} {x:Cell} (hL:look none B o=some ob) (hc:ob.cs[c]?=some x) (hs:x.s=s):(mk A B).cell o s c=some (ob,x):=by
 unfold St.cell
 have e:(mk A B).L o=look none B o:=rfl
 rw [e,hL]
 simp only [Option.bind_some,hc,hs,Nat.beq_refl,cond]
theorem ajx {s:ByteArray} {i y:Int}:bt s i=some y↔0≤i∧∃b,s.data.toList[i.toNat]?=some b∧(b.toNat:Int)=y:=by
 unfold bt
 by_cases h:0≤i<;>simp [h]
section
variable (hd:Nat.blt d nt=true)
include hd
theorem oMv {x:Operand} {ag:Bool} {cs:List RV} (hx:(mk A B).get x= .v ag cs):aH P cfg C nt ⟨some d,.move x,ty,pos,aft,gd⟩ (mk A B)=some (mk ((d,.v ag cs)::A) B):=by
 simp only [aH,hx,hd,if_true];rfl
theorem Qy {x:Operand} {vs:List (Bool×List RV)} (hx:(mk A B).get x= .tup vs):aH P cfg C nt ⟨some d,.move x,ty,pos,aft,gd⟩ (mk A B)=some (mk ((d,.tup vs)::A) B):=by
 simp only [aH,hx,hd,if_true];rfl
theorem an4 {x:Operand} {t:Nat} {a:AV} (hx:(mk A B).get x= .v false [.im t a]):aH P cfg C nt ⟨some d,.assign x,ty,pos,aft,gd⟩ (mk A B)=some (mk ((d,.v false [.im t a])::A) B):=by
 simp only [aH,hx,hd,if_true,Option.bind_some];rfl
theorem alz {x:Operand} {o s off:Nat} (hx:(mk A B).get x= .v false [.mp o s off]):aH P cfg C nt ⟨some d,.assign x,ty,pos,aft,gd⟩ (mk A B)=some (mk ((d,.v false [.mp o s off])::A) B):=by
 simp only [aH,hx,hd,if_true,Option.bind_some];rfl
theorem jU {x:Operand} {o s c:Nat} {ob:Obj} {t:Nat} {a:AV} (hx:(mk A B).get x= .v false [.own o s c]) (hne:o.beq d=false) (hL:look none B o=some ob) (hc:ob.cs[c]?=some ⟨.sh,s,t,a⟩):
 aH P cfg C nt ⟨some d,.assign x,ty,pos,aft,gd⟩ (mk A B)=some (mk ((d,.v false [.own d (ja ((o,some (ob.bQ c .gone))::B) d).2 0])::A) ((d,some (zg (ja ((o,some (ob.bQ c .gone))::B) d) false false [⟨.sh,t,a⟩]))::(o,some (ob.bQ c .gone))::B)):=by
 simp only [aH,hx,hd,if_true,Option.bind_some,St.assign,hne,Bool.false_eq_true,if_false,Qw hL hc,Option.map_some,AO]
 rfl
theorem AP {x:Operand} {e sz:Nat} (hx:(mk A B).get x= .v false [.nil]) (hT:oG P ty=some (e,sz)):
 aH P cfg C nt ⟨some d,.assign x,ty,pos,aft,gd⟩ (mk A B)=some (mk ((d,.v false [.own d (ja B d).2 0])::A) ((d,some (zg (ja B d) false false [⟨.sh,0,.row sz []⟩]))::B)):=by
 simp only [aH,hx,hd,if_true,Option.bind_some,St.assign,St.take,hT,Option.map_some,Option.getD_some,AO]
 rfl
theorem an5 {x a b:Operand} {t:Nat} {v:Bool} {ag:Bool} {cs:List RV} (hx:(mk A B).get x= .v false [.im t (.sc (.bool v))]) (hv:v=true) (ha:(mk A B).get a= .v ag cs):
 aH P cfg C nt ⟨some d,.pick x a b,ty,pos,aft,gd⟩ (mk A B)=some (mk ((d,.v ag cs)::A) B):=by
 simp only [aH,hx,SV.bool?,Option.bind_some,hv,cond,ha,hd,if_true];rfl
theorem an6 {x a b:Operand} {t:Nat} {v:Bool} {ag:Bool} {cs:List RV} (hx:(mk A B).get x= .v false [.im t (.sc (.bool v))]) (hv:v=false) (ha:(mk A B).get b= .v ag cs):
 aH P cfg C nt ⟨some d,.pick x a b,ty,pos,aft,gd⟩ (mk A B)=some (mk ((d,.v ag cs)::A) B):=by
 simp only [aH,hx,SV.bool?,Option.bind_some,hv,cond,ha,hd,if_true];rfl
theorem oAl {t:TypeId} {zs:List RV} {ks:List (Option Nat)} {ag:Bool} {n:Nat} {xs:List CV} (hT:tyF P t=some (zs,ks,ag,n)) (hx:(mk A B).fF ks zs=some (xs,mk A B)):
 aH P cfg C nt ⟨some d,.alloc t,ty,pos,aft,gd⟩ (mk A B)=some (mk ((d,.v false [.mp d (ja B d).1 0])::A) ((d,some (zg (ja B d) true ag xs))::B)):=by
 unfold tyF at hT
 obtain ⟨z,h1,hT⟩:=Option.bind_eq_some_iff.1 hT
 obtain ⟨k,h2,hT⟩:=Option.map_eq_some_iff.1 hT
 cases hT
 simp only [aH,hd,if_true,Option.bind_some,h1,h2,hx,Option.map_some,AO]
 rfl
theorem oBx {t:TypeId} {x:Operand} {zs:List RV} {ks:List (Option Nat)} {ag ag':Bool} {n:Nat} {cs:List RV} {xs:List CV} (hT:tyF P t=some (zs,ks,ag,n)) (hg:(mk A B).get x= .v ag' cs) (hx:(mk A B).fF ks cs=some (xs,mk A' B')) (hdp:cfg.deep nt (1000000+d)=false:=by exact rfl):
 aH P cfg C nt ⟨some d,.box t x,ty,pos,aft,gd⟩ (mk A B)=some (mk ((d,.v false [.mp d (ja B' d).1 0])::A') ((d,some (zg (ja B' d) true ag xs))::B')):=by
 unfold tyF at hT
 obtain ⟨z,h1,hT⟩:=Option.bind_eq_some_iff.1 hT
 obtain ⟨k,h2,hT⟩:=Option.map_eq_some_iff.1 hT
 cases hT
 simp only [aH,hd,if_true,Option.bind_some,hg,h1,h2,hx,Option.map_some,UI,hdp,cond_false,AO]
 rfl
theorem oBu {t:TypeId} {ps:Array (Nat×Operand)} {zs:List RV} {pl:List (Nat×Nat)} {cs:List RV} (hT:MO P t=some (zs,pl)) (hb:qE (mk A B) pl zs (ps.toList.map fun p=>(p.1,(mk A B).get p.2))=some cs):
 aH P cfg C nt ⟨some d,.build t ps,ty,pos,aft,gd⟩ (mk A B)=some (mk ((d,.v true cs)::A) B):=by
 unfold MO at hT
 obtain ⟨z,h1,hT⟩:=Option.bind_eq_some_iff.1 hT
 simp only [aH,h1,Option.bind_some]
 split at hT
 ·rename_i fs hu
  obtain ⟨p,h2,hT⟩:=Option.map_eq_some_iff.1 hT
  cases hT
  simp only [hu,h2,Option.bind_some,hb,hd,if_true]
  rfl
 ·rename_i n e hu
  obtain ⟨inf,h2,hT⟩:=Option.map_eq_some_iff.1 hT
  cases hT
  simp only [hu,h2,Option.bind_some,hb,hd,if_true]
  rfl
 ·cases hT
theorem oBS {t:TypeId} {n:Nat} {ps:Array (Nat×Operand)} {e sz b:Nat} {ks:List (Option Nat)} {ag:Bool} {zs:List RV} {tg t':Nat} {es:List AV} (hT:gm P t=some (e,sz,ks,ag,b,zs))
 (hn:(n.beq ps.size&&Nat.blt 0 sz&&Nat.ble (n*sz) 16777216)=true) (hp:(mk A B).parts ag ks sz 0 (ps.toList.map fun p=>(p.1,(mk A B).get p.2))=some (tg,es,mk A' B')) (ht:fK ks tg es=t') (hdp:(ps.size.beq 1&&cfg.deep nt d)=false:=by exact rfl):
 aH P cfg C nt ⟨some d,.buildSlice t n ps,ty,pos,aft,gd⟩ (mk A B)=some (mk ((d,.v false [.own d (ja B' d).2 0])::A') ((d,some (zg (ja B' d) false false [⟨.sh,t',.row sz es⟩]))::B')):=by
 unfold gm at hT
 obtain ⟨p,h1,hT⟩:=Option.bind_eq_some_iff.1 hT
 obtain ⟨z,h2,hT⟩:=Option.bind_eq_some_iff.1 hT
 split at hT
 ·cases hT
 ·obtain ⟨k,h3,hT⟩:=Option.map_eq_some_iff.1 hT
  cases hT
  simp only [aH,hd,if_true,Option.bind_some,h1,h2,h3,hn,hdp,cond_false,hp,Option.map_some,AO,ht]
  rfl
theorem oLd {t:TypeId} {x:Operand} {zs:List RV} {ks:List (Option Nat)} {ag ag':Bool} {n:Nat} {r:RV} {cs:List RV} (hT:tyF P t=some (zs,ks,ag,n)) (hx:(mk A B).get x= .v false [r]) (hl:(mk A B).load ag (if ag then n else 1) r=some (.v ag' cs)):
 aH P cfg C nt ⟨some d,.load t x,ty,pos,aft,gd⟩ (mk A B)=some (mk ((d,.v ag' cs)::A) B):=by
 unfold tyF at hT
 obtain ⟨z,h1,hT⟩:=Option.bind_eq_some_iff.1 hT
 obtain ⟨k,h2,hT⟩:=Option.map_eq_some_iff.1 hT
 cases hT
 simp only [aH,h2,Option.bind_some,hx,SV.one?,hl,hd,if_true]
 rfl
theorem oNl {x:Operand} {r:RV} (hx:(mk A B).get x= .v false [r]) (hp:(mk A B).vW r=some false):aH P cfg C nt ⟨some d,.nilCheck x,ty,pos,aft,gd⟩ (mk A B)=some (mk ((d,.v false [r])::A) B):=by
 simp only [aH,hx,hp,hd,if_true];rfl
theorem oBi {bo:BinOp} {t t2:TypeId} {x y:Operand} {u u':SV} {v:Value} (hx:(mk A B).get x=u) (hy:(mk A B).get y=u') (hr:binop (mk A B) (P.underlying t) bo u u'=some v):
 aH P cfg C nt ⟨some d,.binOp bo t x y t2,ty,pos,aft,gd⟩ (mk A B)=some (mk ((d,.v false [.im 0 (.sc v)])::A) B):=by
 simp only [aH,hx,hy,abX hr,Option.bind_some,hd,if_true];rfl
theorem oBa {bo:BinOp} {t t2:TypeId} {x y:Operand} {rs rs':List RV} {us us':List Value} {v:Value} (hr:PE P t bo us us'=some v) (hx:(mk A B).get x= .v true rs) (hy:(mk A B).get y= .v true rs') (h1:PD rs=some us) (h2:PD rs'=some us'):
 aH P cfg C nt ⟨some d,.binOp bo t x y t2,ty,pos,aft,gd⟩ (mk A B)=some (mk ((d,.v false [.im 0 (.sc v)])::A) B):=by
 simp only [aH,AL,hx,hy,h1,h2,hr,Option.bind_some,hd,if_true];rfl
theorem an7 {t t2:TypeId} {x y:Operand} {k:IntKind} {t3 t4:Nat} {a b q:Int} (hq:dv k a b=some q) (hx:(mk A B).get x= .v false [.im t3 (.sc (.int k a))]) (hy:(mk A B).get y= .v false [.im t4 (.sc (.int k b))]):
 aH P cfg C nt ⟨some d,.binOp .quo t x y t2,ty,pos,aft,gd⟩ (mk A B)=some (mk ((d,.v false [.im 0 (.sc (.int k q))])::A) B):=by
 obtain ⟨h1,h2⟩:=ajv.1 hq
 refine oBi hd hx hy ?_
 simp only [binop,if_true,Jy,if_neg h1,h2]
theorem Ja {t t2:TypeId} {x y:Operand} {k:IntKind} {t3 t4:Nat} {a b q:Int} (hq:md a b=some q) (hx:(mk A B).get x= .v false [.im t3 (.sc (.int k a))]) (hy:(mk A B).get y= .v false [.im t4 (.sc (.int k b))]):
 aH P cfg C nt ⟨some d,.binOp .rem t x y t2,ty,pos,aft,gd⟩ (mk A B)=some (mk ((d,.v false [.im 0 (.sc (.int k q))])::A) B):=by
 obtain ⟨h1,h2⟩:=ajw.1 hq
 refine oBi hd hx hy ?_
 simp only [binop,if_true,Jy,if_neg h1,h2]
theorem alA {t t2:TypeId} {x y:Operand} {t3 t4:Nat} {a b q:ByteArray} (hq:cat a b=some q) (hx:(mk A B).get x= .v false [.im t3 (.sc (.string a))]) (hy:(mk A B).get y= .v false [.im t4 (.sc (.string b))]):
 aH P cfg C nt ⟨some d,.binOp .add t x y t2,ty,pos,aft,gd⟩ (mk A B)=some (mk ((d,.v false [.im 0 (.sc (.string q))])::A) B):=by
 unfold cat at hq
 refine oBi hd hx hy ?_
 simp only [binop,Md]
 split at hq
 ·cases hq
 ·rename_i h1
  cases hq
  rw [if_neg h1]
theorem oUn {uo:UnOp} {t:TypeId} {x:Operand} {u:SV} {v:Value} (hx:(mk A B).get x=u) (hr:unop uo u=some v):
 aH P cfg C nt ⟨some d,.unOp uo t x,ty,pos,aft,gd⟩ (mk A B)=some (mk ((d,.v false [.im 0 (.sc v)])::A) B):=by
 simp only [aH,hx,hr,Option.bind_some,hd,if_true];rfl
theorem an8 {s t:TypeId} {x:Operand} {td:TypeDesc} {k k':IntKind} {t3:Nat} {n:Int} (hs:P.underlying s=some td) (ht:P.underlying t=some (.int k)) (hx:(mk A B).get x= .v false [.im t3 (.sc (.int k' n))]):
 aH P cfg C nt ⟨some d,.convert s t x,ty,pos,aft,gd⟩ (mk A B)=some (mk ((d,.v false [.im 0 (.sc (.int k (k.wrap n)))])::A) B):=by
 simp only [aH,hs,ht,hx,hd,if_true];rfl
theorem an9 {s t e:TypeId} {x:Operand} {r:RV} {tg:Nat} {l:List Int} (hs:P.underlying s=some (.slice e)) (he:P.underlying e=some (.int .u8)) (ht:P.underlying t=some .string) (hx:(mk A B).get x= .v false [r]) (hl:(mk A B).elems 1 r=some (tg,l.map (eK .u8))):
 aH P cfg C nt ⟨some d,.convert s t x,ty,pos,aft,gd⟩ (mk A B)=some (mk ((d,.v false [.im 0 (.sc (.string (strOf l)))])::A) B):=by
 simp only [aH,hs,ht,hx,he,hl,Option.bind_some,bytesOf_map,hd,if_true];rfl
theorem oFA {s:TypeId} {x:Operand} {fi off:Nat} {r r':RV} (hT:bu P s fi=some off) (hx:(mk A B).get x= .v false [r]) (hs:(mk A B).shift off r=some r'):
 aH P cfg C nt ⟨some d,.fieldAddr s x fi,ty,pos,aft,gd⟩ (mk A B)=some (mk ((d,.v false [r'])::A) B):=by
 unfold bu at hT
 split at hT
 ·rename_i fs hu
  obtain ⟨fd,h1,hT⟩:=Option.bind_eq_some_iff.1 hT
  split at hT
  ·cases hT
  ·rename_i h2
   cases hT
   simp only [aH,hu,h1,Option.bind_some,if_neg h2,hx,SV.one?,hs,hd,if_true]
   rfl
 ·cases hT
theorem Pv {t:TypeId} {x i:Operand} {e sz b:Nat} {ks:List (Option Nat)} {ag:Bool} {zs:List RV} {k:IntKind} {t3:Nat} {n:Int} {r r':RV} (hT:gm P t=some (e,sz,ks,ag,b,zs)) (hi:(mk A B).get i= .v false [.im t3 (.sc (.int k n))]) (h0:0≤n)
 (hx:(mk A B).get x= .v false [r]) (hr:(mk A B).ji sz r n.toNat=some r'):
 aH P cfg C nt ⟨some d,.indexAddr t x i,ty,pos,aft,gd⟩ (mk A B)=some (mk ((d,.v false [r'])::A) B):=by
 unfold gm oG at hT
 obtain ⟨p,h1,hT⟩:=Option.bind_eq_some_iff.1 hT
 obtain ⟨z,h2,hT⟩:=Option.bind_eq_some_iff.1 hT
 split at hT
 ·cases hT
 ·obtain ⟨k,h3,hT⟩:=Option.map_eq_some_iff.1 hT
  split at h1
  ·rename_i e' hu
   obtain ⟨inf,h4,h5⟩:=Option.map_eq_some_iff.1 h1
   cases h5
   cases hT
   simp only [aH,hi,SV.int?,Option.bind_some,vU,if_pos h0,hx,SV.one?,hu,h4,hr,hd,if_true]
   rfl
  ·cases h1
theorem aoa {α:Type} {t:TypeId} {x i:Operand} {e sz b:Nat} {ks:List (Option Nat)} {ag:Bool} {zs:List RV} {k:IntKind} {t2 t3:Nat} {n:Int} {L:List α} {en:α→AV} {y:α} (hr:rd L n=some y) (hT:gm P t=some (e,sz,ks,ag,b,zs)) (hi:(mk A B).get i= .v false [.im t3 (.sc (.int k n))])
 (hx:(mk A B).get x= .v false [.im t2 (.row sz (L.map en))]):
 aH P cfg C nt ⟨some d,.indexAddr t x i,ty,pos,aft,gd⟩ (mk A B)=some (mk ((d,.v false [.im t2 (.cp (en y).cells 0)])::A) B):=by
 obtain ⟨h0,h1⟩:=Qx.1 hr
 refine Pv hd hT hi h0 hx ?_
 simp only [St.ji,Nat.beq_refl,if_true,List.getElem?_map,h1,Option.map_some]
theorem Gm {α:Type} {t:TypeId} {x i:Operand} {e sz b:Nat} {ks:List (Option Nat)} {ag:Bool} {zs:List RV} {k:IntKind} {t2 t3:Nat} {n:Int} {L:List α} {en:α→AV} {y:α} {o s c:Nat} {ob:Obj} (hr:rd L n=some y) (hT:gm P t=some (e,sz,ks,ag,b,zs)) (hi:(mk A B).get i= .v false [.im t3 (.sc (.int k n))])
 (hx:(mk A B).get x= .v false [.own o s c]) (hL:look none B o=some ob) (hc:ob.cs[c]?=some ⟨.sh,s,t2,.row sz (L.map en)⟩):
 aH P cfg C nt ⟨some d,.indexAddr t x i,ty,pos,aft,gd⟩ (mk A B)=some (mk ((d,.v false [.mpe o s c n.toNat 0])::A) B):=by
 obtain ⟨h0,h1⟩:=Qx.1 hr
 refine Pv hd hT hi h0 hx ?_
 have hlt:n.toNat< (L.map en).length:=by
  rw [List.length_map]
  exact (List.getElem?_eq_some_iff.1 h1).1
 have hb:Nat.blt n.toNat (L.map en).length=true:=by
  unfold Nat.blt;exact Nat.ble_eq_true_of_le hlt
 simp only [St.ji,qK hL hc rfl,Option.bind_some,Nat.beq_refl,hb,Bool.and_true,if_true]
def OM.flat:OM→Bool
 | .imm | .sh=>true
 | _=>false
theorem YK {α:Type} {t:TypeId} {x:Operand} {zs:List RV} {ks:List (Option Nat)} {ag ag':Bool} {n:Nat} {m:OM} {t2 z:Nat} {L:List α} {en:α→AV} {y:α} {o s c i off:Nat} {ob:Obj} {cs:List RV} (hT:tyF P t=some (zs,ks,ag,n)) (hx:(mk A B).get x= .v false [.mpe o s c i off])
 (hL:look none B o=some ob) (hc:ob.cs[c]?=some ⟨m,s,t2,.row z (L.map en)⟩) (hm:m.flat=true) (hy:L[i]?=some y) (hb:Nat.ble (off+(if ag then n else 1)) (en y).cells.length=true) (hl:SV.jO ag ((((en y).cells.drop off).take (if ag then n else 1)).map (.im t2))=some (.v ag' cs)):
 aH P cfg C nt ⟨some d,.load t x,ty,pos,aft,gd⟩ (mk A B)=some (mk ((d,.v ag' cs)::A) B):=by
 refine oLd hd hT hx ?_
 simp only [St.load,qK hL hc rfl,Option.bind_some]
 cases m with
 | imm=>simp only [List.getElem?_map,hy,Option.map_some,Option.bind_some,hb,if_true];exact hl
 | sh=>simp only [List.getElem?_map,hy,Option.map_some,Option.bind_some,hb,if_true];exact hl
 | _=>cases hm
theorem oIx {t:TypeId} {x i:Operand} {k:IntKind} {t2 t3:Nat} {n y:Int} {s:ByteArray} (hr:bt s n=some y) (hu:P.underlying t=some .string) (hi:(mk A B).get i= .v false [.im t3 (.sc (.int k n))]) (hx:(mk A B).get x= .v false [.im t2 (.sc (.string s))]):
 aH P cfg C nt ⟨some d,.index t x i,ty,pos,aft,gd⟩ (mk A B)=some (mk ((d,.v false [.im 0 (.sc (.int .u8 y))])::A) B):=by
 obtain ⟨h0,b,h1,h2⟩:=ajx.1 hr
 simp only [aH,hi,SV.int?,Option.bind_some,vU,if_pos h0,hu,hx,h1,hd,if_true,h2]
 rfl
theorem oEx {x:Operand} {i:Nat} {vs:List (Bool×List RV)} {ag:Bool} {cs:List RV} (hx:(mk A B).get x= .tup vs) (hi:vs[i]?=some (ag,cs)):
 aH P cfg C nt ⟨some d,.extract x i,ty,pos,aft,gd⟩ (mk A B)=some (mk ((d,.v ag cs)::A) B):=by
 simp only [aH,hx,hi,Option.bind_some,hd,if_true];rfl
theorem oMF {g:FuncId} {caps:Array Operand} {rs:List RV} (hc:caps.toList.mapM (fun c=>((mk A B).get c).one?)=some rs):
 aH P cfg C nt ⟨some d,.makeFunc (.func g) #[] caps,ty,pos,aft,gd⟩ (mk A B)=some (mk ((d,.fn g rs)::A) B):=by
 simp only [aH,hc,Option.bind_some,hd,if_true];rfl
theorem U6 {x:Operand} {ats:Array TypeId} {t t3:Nat} {s:ByteArray} (ha:ats[0]?=some t) (hu:P.underlying t=some .string) (hx:(mk A B).get x= .v false [.im t3 (.sc (.string s))]):
 aH P cfg C nt ⟨some d,.call ⟨.builtin .len,#[x],ats⟩,ty,pos,aft,gd⟩ (mk A B)=some (mk ((d,iv s.size)::A) B):=by
 simp only [aH,List.map_cons,List.map_nil,hx,ha,Option.bind_some,hu,hd,if_true];rfl
theorem oLn {x:Operand} {ats:Array TypeId} {t e:Nat} {r:RV} {n m:Nat} (ha:ats[0]?=some t) (hu:P.underlying t=some (.slice e)) (hx:(mk A B).get x= .v false [r]) (hns:∀t3 s,r≠ .im t3 (.sc (.string s))) (hl:(mk A B).len r=some n) (hn:n=m):
 aH P cfg C nt ⟨some d,.call ⟨.builtin .len,#[x],ats⟩,ty,pos,aft,gd⟩ (mk A B)=some (mk ((d,iv m)::A) B):=by
 subst hn
 simp only [aH,List.map_cons,List.map_nil,hx]
 cases r with
 | im t3 a=>
  cases a with
  | sc v=>
   cases v with
   | string s=>exact absurd rfl (hns _ _)
   | _=>simp only [ha,Option.bind_some,hu,hl,hd,if_true];rfl
  | _=>simp only [ha,Option.bind_some,hu,hl,hd,if_true];rfl
 | _=>simp only [ha,Option.bind_some,hu,hl,hd,if_true];rfl
theorem aob {α:Type} {x:Operand} {ats:Array TypeId} {t e t3 z:Nat} {L:List α} {en:α→AV} (ha:ats[0]?=some t) (hu:P.underlying t=some (.slice e)) (hx:(mk A B).get x= .v false [.im t3 (.row z (L.map en))]):
 aH P cfg C nt ⟨some d,.call ⟨.builtin .len,#[x],ats⟩,ty,pos,aft,gd⟩ (mk A B)=some (mk ((d,iv L.length)::A) B):=
 oLn hd ha hu hx (fun _ _ h=>by cases h) rfl (List.length_map _)
theorem U7 {α:Type} {x:Operand} {ats:Array TypeId} {t e t3 z o s c:Nat} {ob:Obj} {m:OM} {L:List α} {en:α→AV} (ha:ats[0]?=some t) (hu:P.underlying t=some (.slice e)) (hx:(mk A B).get x= .v false [.own o s c]) (hL:look none B o=some ob) (hc:ob.cs[c]?=some ⟨m,s,t3,.row z (L.map en)⟩) (hm:m≠ .gone):
 aH P cfg C nt ⟨some d,.call ⟨.builtin .len,#[x],ats⟩,ty,pos,aft,gd⟩ (mk A B)=some (mk ((d,iv L.length)::A) B):=by
 refine oLn hd (n:=(L.map en).length) ha hu hx (fun _ _ h=>by cases h) ?_ (List.length_map _)
 simp only [St.len,qK hL hc rfl,Option.bind_some]
theorem ajy {as:Array Operand} {ats:Array TypeId} {v:Value} (hv:Ee min2 (as.toList.map (mk A B).get)=some v):
 aH P cfg C nt ⟨some d,.call ⟨.builtin .min,as,ats⟩,ty,pos,aft,gd⟩ (mk A B)=some (mk ((d,.v false [.im 0 (.sc v)])::A) B):=by
 simp only [aH,hv,Option.bind_some,hd,if_true];rfl
theorem ajz {as:Array Operand} {ats:Array TypeId} {v:Value} (hv:Ee max2 (as.toList.map (mk A B).get)=some v):
 aH P cfg C nt ⟨some d,.call ⟨.builtin .max,as,ats⟩,ty,pos,aft,gd⟩ (mk A B)=some (mk ((d,.v false [.im 0 (.sc v)])::A) B):=by
 simp only [aH,hv,Option.bind_some,hd,if_true];rfl
end
end
end Go.Sim
