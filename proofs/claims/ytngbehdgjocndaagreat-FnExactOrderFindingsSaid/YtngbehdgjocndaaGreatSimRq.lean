/- The rules once more, with fewer facts to name: for printed proofs of laws that reach very much. Conditions: none. -/
import Derived.Test.YtngbehdgjocndaaGreatSimRs
namespace Go.Sim
open Go.Pw
set_option linter.unusedSimpArgs false
set_option linter.unusedVariables false
abbrev rK (P:Program) (f:Func):List (ResultVar×List (Option Nat)×Option (Bool×Nat)):=La P (f.results.toList.zip f.resultTypes.toList)
abbrev pn:PM×List (Option Nat):=(.cst false,[none])
def fR:Nat→Nat→Nat→Sch→Sch
 | 0,_,_,s=>s
 | c+1,i,n,s=> .first i (rg [i+1,n]) [] (fR c (i+1) n s)
theorem b2 {α β γ:Type} {o:Option α} {f:α→Option β} {g:α→β→Option γ} {r:γ} (h:(o.bind fun x=>(f x).bind (g x))=some r):∃x,o=some x∧∃y,f x=some y∧g x y=some r:=by
 obtain ⟨x,h1,h⟩:=Option.bind_eq_some_iff.1 h
 obtain ⟨y,h2,h⟩:=Option.bind_eq_some_iff.1 h
 exact ⟨x,h1,y,h2,h⟩
noncomputable section
variable {P:Program} {cfg:Cfg} {C:yc} {f nt:Nat} {ops:Array Oper} {l:List Oper} {ks:List Fr} {st st' st1 X:St} {Q:Ex×St→Prop} {a b c:Code} {A A':List (Nat×SV)} {B B':List (Nat×Option Obj)}
variable {d:Nat} {op:Op} {dst:Option Tmp} {ty:TypeId} {pos:String} {aft:Array Edge} {gd:Option (Nat×Bool)} {k:Option (List Nat×List Nat)} {κ:List (List Nat×List Nat)}
theorem pr2 {α β:Type} {a a':α} {b b':β} (h:(a,b)=(a',b')):a=a'∧b=b':=by cases h;exact ⟨rfl,rfl⟩
def gdv (ops:Array Oper) (st:St) (i:Nat):Option (Oper×SV):=
 (ops[i]?).bind fun o=>match o.guard with
   | some (j,_)=>(ops[j]?).bind fun o'=>o'.dst.map fun dj=>(o,st.sl dj)
   | none=>none
def gdu (ops:Array Oper) (st:St) (j:Nat):Option SV:=(ops[j]?).bind fun o=>o.dst.map fun dj=>st.sl dj
theorem Py {i j:Nat} {want:Bool} {v:SV} (h:gdv ops st i=some (⟨dst,op,ty,pos,aft,some (j,want)⟩,v)):ops[i]?=some ⟨dst,op,ty,pos,aft,some (j,want)⟩∧∃dj,(ops[j]?).bind (·.dst)=some dj∧st.sl dj=v:=by
 unfold gdv at h
 obtain ⟨o,h1,h⟩:=Option.bind_eq_some_iff.1 h
 cases hg:o.guard with
 | none=>rw [hg] at h;cases h
 | some p=>
  obtain ⟨j',w'⟩:=p
  rw [hg] at h
  obtain ⟨o',h2,h⟩:=Option.bind_eq_some_iff.1 h
  obtain ⟨dj,h3,h⟩:=Option.map_eq_some_iff.1 h
  cases h
  cases hg
  exact ⟨h1,dj,by rw [h2];exact h3,rfl⟩
theorem aac {j:Nat} {v:SV} (h:gdu ops st j=some v):∃dj,(ops[j]?).bind (·.dst)=some dj∧st.sl dj=v:=by
 unfold gdu at h
 obtain ⟨o,h1,h⟩:=Option.bind_eq_some_iff.1 h
 obtain ⟨dj,h2,h⟩:=Option.map_eq_some_iff.1 h
 exact ⟨dj,by rw [h1];exact h2,h⟩
theorem t1 [z:Zf cfg f] {i:Nat} {ws us:List Nat} {t:Sch} (hi:ops[i]?=some ⟨dst,op,ty,pos,aft,none⟩) (h:aH P cfg C nt ⟨dst,op,ty,pos,aft,none⟩ st=some st1) (ht:gp P cfg C f nt ops k κ t st1=some X) (hok:xU cfg f ops us i st=true:=by exact rfl):gp P cfg C f nt ops k κ (.first i ws us t) st=some X:=Sim.t hok hi h ht
theorem t2 [z:Zf cfg f] {i:Nat} {ws us:List Nat} {t:Sch} {j tg:Nat} {want v:Bool} (hi:gdv ops st i=some (⟨dst,op,ty,pos,aft,some (j,want)⟩,.v false [.im tg (.sc (.bool v))])) (hv:v=want)
 (h:aH P cfg C nt ⟨dst,op,ty,pos,aft,some (j,want)⟩ st=some st1) (ht:gp P cfg C f nt ops k κ t st1=some X) (hok:xU cfg f ops us i st=true:=by exact rfl):gp P cfg C f nt ops k κ (.first i ws us t) st=some X:=by
 obtain ⟨h1,dj,h2,h3⟩:=Py hi
 exact tT hok h1 h2 h3 hv h ht
theorem t3 {i:Nat} {ws us:List Nat} {t:Sch} {j tg:Nat} {want v:Bool} (hi:gdv ops (mk A B) i=some (⟨some d,op,ty,pos,aft,some (j,want)⟩,.v false [.im tg (.sc (.bool v))])) (hv:v=!want)
 (ht:gp P cfg C f nt ops k κ t (mk ((d,.tup [])::A) B)=some X) (hok:xU cfg f ops us i (mk A B)=true:=by exact rfl) (hd:Nat.blt d nt=true:=by exact rfl):gp P cfg C f nt ops k κ (.first i ws us t) (mk A B)=some X:=by
 obtain ⟨h1,dj,h2,h3⟩:=Py hi
 exact tF hok h1 h2 h3 hv hd ht
theorem t4 {i:Nat} {ws us:List Nat} {t:Sch} {j:Nat} {want:Bool} (hi:gdv ops (mk A B) i=some (⟨some d,op,ty,pos,aft,some (j,want)⟩,.tup []))
 (ht:gp P cfg C f nt ops k κ t (mk ((d,.tup [])::A) B)=some X) (hok:xU cfg f ops us i (mk A B)=true:=by exact rfl) (hd:Nat.blt d nt=true:=by exact rfl):gp P cfg C f nt ops k κ (.first i ws us t) (mk A B)=some X:=by
 obtain ⟨h1,dj,h2,h3⟩:=Py hi
 exact sT hok (dU h1 h2 h3 hd) ht
theorem s1 [z:Zf cfg f] {i:Nat} {t:Sch} (hi:ops[i]?=some ⟨dst,op,ty,pos,aft,none⟩) (h:aH P cfg C nt ⟨dst,op,ty,pos,aft,none⟩ st=some st1) (ht:gp P cfg C f nt ops k [] t st1=some X):gp P cfg C f nt ops k [] (.fork i t .stop) st=some X:=sS (dN z.z hi h) trivial ht
theorem s2 [z:Zf cfg f] {i:Nat} {t:Sch} {j tg:Nat} {want v:Bool} (hi:gdv ops st i=some (⟨dst,op,ty,pos,aft,some (j,want)⟩,.v false [.im tg (.sc (.bool v))])) (hv:v=want)
 (h:aH P cfg C nt ⟨dst,op,ty,pos,aft,some (j,want)⟩ st=some st1) (ht:gp P cfg C f nt ops k [] t st1=some X):gp P cfg C f nt ops k [] (.fork i t .stop) st=some X:=by
 obtain ⟨h1,dj,h2,h3⟩:=Py hi
 exact sS (dT z.z h1 h2 h3 hv h) trivial ht
theorem s3 [z:Zf cfg f] {i:Nat} {t r:Sch} (hi:ops[i]?=some ⟨dst,op,ty,pos,aft,none⟩) (h:aH P cfg C nt ⟨dst,op,ty,pos,aft,none⟩ st=some st1) (ht:gp P cfg C f nt ops k [] t st1=some X) (hr:gp P cfg C f nt ops k [] r st=some X):gp P cfg C f nt ops k [] (.fork i t r) st=some X:=sF (dN z.z hi h) trivial ht hr
theorem xG [z:Zf cfg f] {j t:Nat} {want v:Bool} (hj:gdu ops st j=some (.v false [.im t (.sc (.bool v))])) (hv:v=want)
 (h:aH P cfg C nt ⟨dst,op,ty,pos,aft,some (j,want)⟩ st=some st1) (hr:Lx P cfg f nt C ops l st1 k X):Lx P cfg f nt C ops (⟨dst,op,ty,pos,aft,some (j,want)⟩::l) st k X:=by
 obtain ⟨dj,h2,h3⟩:=aac hj
 exact xqT h2 h3 hv h hr
theorem xF {j t:Nat} {want v:Bool} (hj:gdu ops (mk A B) j=some (.v false [.im t (.sc (.bool v))])) (hv:v=!want)
 (hr:Lx P cfg f nt C ops l (mk ((d,.tup [])::A) B) k X) (hd:Nat.blt d nt=true:=by exact rfl):Lx P cfg f nt C ops (⟨some d,op,ty,pos,aft,some (j,want)⟩::l) (mk A B) k X:=by
 obtain ⟨dj,h2,h3⟩:=aac hj
 exact aom h2 h3 hv hd hr
theorem G0 {F:bC} [hc:Cf cfg f F] {id:Nat} (he:evL P cfg f nt (FL P cfg) ops ops.toList st=some st') (h:Unw P cfg f nt ks (.normal,st') Q) (hn:look none F.inn id=none:=by exact rfl) (hn':look none F.out id=none:=by exact rfl)
 (hsh:(F.shut.any fun y=>y.beq id)=false:=by exact rfl):Go P cfg f nt (.region id ops false) ks st Q:=g0 hn hn' he h hsh
theorem pM {x:Operand} {ag:Bool} {cs:List RV} (hx:(mk A B).get x= .v ag cs) (hd:Nat.blt d nt=true:=by exact rfl):aH P cfg C nt ⟨some d,.move x,ty,pos,aft,gd⟩ (mk A B)=some (mk ((d,.v ag cs)::A) B):=oMv hd hx
theorem pA {x:Operand} {t:Nat} {a:AV} (hx:(mk A B).get x= .v false [.im t a]) (hd:Nat.blt d nt=true:=by exact rfl):aH P cfg C nt ⟨some d,.assign x,ty,pos,aft,gd⟩ (mk A B)=some (mk ((d,.v false [.im t a])::A) B):=an4 hd hx
theorem pB {bo:BinOp} {t t2:TypeId} {x y:Operand} {v:Value} (hr:binop (mk A B) (P.underlying t) bo ((mk A B).get x) ((mk A B).get y)=some v) (hd:Nat.blt d nt=true:=by exact rfl):
 aH P cfg C nt ⟨some d,.binOp bo t x y t2,ty,pos,aft,gd⟩ (mk A B)=some (mk ((d,.v false [.im 0 (.sc v)])::A) B):=oBi hd rfl rfl hr
theorem pU {uo:UnOp} {t:TypeId} {x:Operand} {v:Value} (hr:unop uo ((mk A B).get x)=some v) (hd:Nat.blt d nt=true:=by exact rfl):
 aH P cfg C nt ⟨some d,.unOp uo t x,ty,pos,aft,gd⟩ (mk A B)=some (mk ((d,.v false [.im 0 (.sc v)])::A) B):=oUn hd rfl hr
def ldv (st:St) (ag:Bool) (n:Nat) (x:SV):Option SV:=x.one?.bind fun r=>st.load ag (if ag then n else 1) r
theorem aad {x:SV} {r:RV} (h:x.one? =some r):x= .v false [r]:=by
 cases x with
 | v ag cs=>
  cases ag
  ·cases cs with
   | nil=>cases h
   | cons c cs=>cases cs with
    | nil=>cases h;rfl
    | cons=>cases h
  ·cases h
 | _=>cases h
theorem pL {t:TypeId} {x:Operand} {zs:List RV} {ks:List (Option Nat)} {ag ag':Bool} {n:Nat} {cs:List RV} (hT:tyF P t=some (zs,ks,ag,n)) (hl:ldv (mk A B) ag n ((mk A B).get x)=some (.v ag' cs)) (hd:Nat.blt d nt=true:=by exact rfl):
 aH P cfg C nt ⟨some d,.load t x,ty,pos,aft,gd⟩ (mk A B)=some (mk ((d,.v ag' cs)::A) B):=by
 obtain ⟨r,h1,h2⟩:=Option.bind_eq_some_iff.1 hl
 exact oLd hd hT (aad h1) h2
theorem l0 {t:TypeId} {x:Operand} {zs:List RV} {ks:List (Option Nat)} {ag:Bool} {n:Nat} {a:AV} (hT:tyF P t=some (zs,ks,ag,n)) (hl:ldv (mk A B) ag n ((mk A B).get x)=some (.v false [.im 0 a])) (hd:Nat.blt d nt=true:=by exact rfl):
 aH P cfg C nt ⟨some d,.load t x,ty,pos,aft,gd⟩ (mk A B)=some (mk ((d,.v false [.im 0 a])::A) B):=pL hT hl hd
theorem l2 {t:TypeId} {x:Operand} {zs:List RV} {ks:List (Option Nat)} {ag:Bool} {n:Nat} {a:AV} (hT:tyF P t=some (zs,ks,ag,n)) (hl:ldv (mk A B) ag n ((mk A B).get x)=some (.v false [.im 2 a])) (hd:Nat.blt d nt=true:=by exact rfl):
 aH P cfg C nt ⟨some d,.load t x,ty,pos,aft,gd⟩ (mk A B)=some (mk ((d,.v false [.im 2 a])::A) B):=pL hT hl hd
def sfv (st:St) (n:Nat) (x:SV):Option RV:=x.one?.bind fun r=>st.shift n r
theorem pF {s:TypeId} {x:Operand} {fi off:Nat} {r':RV} (hT:bu P s fi=some off) (hs:sfv (mk A B) off ((mk A B).get x)=some r') (hd:Nat.blt d nt=true:=by exact rfl):
 aH P cfg C nt ⟨some d,.fieldAddr s x fi,ty,pos,aft,gd⟩ (mk A B)=some (mk ((d,.v false [r'])::A) B):=by
 obtain ⟨r,h1,h2⟩:=Option.bind_eq_some_iff.1 hs
 exact oFA hd hT (aad h1) h2
theorem f2 {s:TypeId} {x:Operand} {fi off:Nat} {a:AV} (hT:bu P s fi=some off) (hs:sfv (mk A B) off ((mk A B).get x)=some (.im 2 a)) (hd:Nat.blt d nt=true:=by exact rfl):
 aH P cfg C nt ⟨some d,.fieldAddr s x fi,ty,pos,aft,gd⟩ (mk A B)=some (mk ((d,.v false [.im 2 a])::A) B):=pF hT hs hd
theorem pN {x:Operand} {r:RV} (hx:((mk A B).get x,(mk A B).vW r)=(.v false [r],some false)) (hd:Nat.blt d nt=true:=by exact rfl):aH P cfg C nt ⟨some d,.nilCheck x,ty,pos,aft,gd⟩ (mk A B)=some (mk ((d,.v false [r])::A) B):=oNl hd (pr2 hx).1 (pr2 hx).2
theorem pT {x a b:Operand} {t:Nat} {v:Bool} {ag:Bool} {cs:List RV} (hx:((mk A B).get x,(mk A B).get a)=(.v false [.im t (.sc (.bool v))],.v ag cs)) (hv:v=true) (hd:Nat.blt d nt=true:=by exact rfl):
 aH P cfg C nt ⟨some d,.pick x a b,ty,pos,aft,gd⟩ (mk A B)=some (mk ((d,.v ag cs)::A) B):=an5 hd (pr2 hx).1 hv (pr2 hx).2
theorem pW {x a b:Operand} {t:Nat} {v:Bool} {ag:Bool} {cs:List RV} (hx:((mk A B).get x,(mk A B).get b)=(.v false [.im t (.sc (.bool v))],.v ag cs)) (hv:v=false) (hd:Nat.blt d nt=true:=by exact rfl):
 aH P cfg C nt ⟨some d,.pick x a b,ty,pos,aft,gd⟩ (mk A B)=some (mk ((d,.v ag cs)::A) B):=an6 hd (pr2 hx).1 hv (pr2 hx).2
theorem pI {α:Type} {x:Operand} {ats:Array TypeId} {t e t3 z:Nat} {L:List α} {en:α→AV} (hu:P.underlying t=some (.slice e)) (hx:(ats[0]?,(mk A B).get x)=(some t,.v false [.im t3 (.row z (L.map en))])) (hd:Nat.blt d nt=true:=by exact rfl):
 aH P cfg C nt ⟨some d,.call ⟨.builtin .len,#[x],ats⟩,ty,pos,aft,gd⟩ (mk A B)=some (mk ((d,iv L.length)::A) B):=aob hd (pr2 hx).1 hu (pr2 hx).2
theorem pJ {α:Type} {t:TypeId} {x i:Operand} {e sz b:Nat} {ks:List (Option Nat)} {ag:Bool} {zs:List RV} {k:IntKind} {t2 t3:Nat} {n:Int} {L:List α} {en:α→AV} {y:α} (hr:rd L n=some y) (hT:gm P t=some (e,sz,ks,ag,b,zs)) (hx:((mk A B).get i,(mk A B).get x)=(.v false [.im t3 (.sc (.int k n))],.v false [.im t2 (.row sz (L.map en))])) (hd:Nat.blt d nt=true:=by exact rfl):
 aH P cfg C nt ⟨some d,.indexAddr t x i,ty,pos,aft,gd⟩ (mk A B)=some (mk ((d,.v false [.im t2 (.cp (en y).cells 0)])::A) B):=aoa hd hr hT (pr2 hx).1 (pr2 hx).2
theorem pS {t:TypeId} {x y:Operand} {zs:List RV} {ks:List (Option Nat)} {ag ag':Bool} {n o s off:Nat} {cs:List RV} {xs:List CV} {ob:Obj} (hT:tyF P t=some (zs,ks,ag,n)) (hx:((mk A B).get x,(mk A B).get y)=(.v false [.mp o s off],.v ag' cs))
 (ht:(mk A B).fF ks cs=some (xs,mk A' B')) (hL:look none B' o=some ob) (hn:cs.length.beq n=true:=by exact rfl) (hs:ob.gen=s:=by exact rfl) (hok:(ob.mem&&!ob.fz&&Nat.ble (off+xs.length) ob.cs.length)=true:=by exact rfl):
 aH P cfg C nt ⟨none,.store t x y,ty,pos,aft,gd⟩ (mk A B)=some (mk A' ((o,some {ob with ctr:=ob.ctr+1,cs:=Sim.splice ob.cs off (xs.map (CV.at (ob.ctr+1)))})::B')):=oSt hT (pr2 hx).1 (pr2 hx).2 hn ht hL hs hok
theorem pX {t:TypeId} {x:Operand} {zs:List RV} {ks:List (Option Nat)} {ag ag':Bool} {n:Nat} {cs:List RV} {xs:List CV} (hT:tyF P t=some (zs,ks,ag,n)) (hg:(mk A B).get x= .v ag' cs) (hx:(mk A B).fF ks cs=some (xs,mk A' B')) (hd:Nat.blt d nt=true:=by exact rfl) (hdp:cfg.deep nt (1000000+d)=false:=by exact rfl):
 aH P cfg C nt ⟨some d,.box t x,ty,pos,aft,gd⟩ (mk A B)=some (mk ((d,.v false [.mp d (ja B' d).1 0])::A') ((d,some (zg (ja B' d) true ag xs))::B')):=oBx hd hT hg hx hdp
theorem cA {g:Operand} {h:FuncId} {as:Array Operand} {ats:Array TypeId} {pk:List (PM×List (Option Nat))} {pre:List (Option Arg)} {args:List Arg} {bor:List Nat} {tag fO:Nat} {res:Res} {vs:List (Bool×List RV)} {v:SV}
 (hc:C h args=some (res,[])) (hK:aJ P cfg h 0 ats.toList=pk) (hg:((mk A B).get g,ats.size.beq as.size&&F5 nt (some d))=(.fn h [],true))
 (hp:Bj (mk A B) pk (as.toList.map (mk A B).get)=some (pre,mk A B)) (hs:MP (mk A B) pk (as.toList.map (mk A B).get) pre=some ⟨args,bor,[],tag,fO⟩)
 (hi:uX d (ja B d).2 (DV (!bor.isEmpty) tag fO) res []=some (vs,[])) (hv:F6 vs=v) (hfr:(overlap bor []||(abZ res||(cfg.fresh h (some d)||cfg.unf h (some d))))=false:=by exact rfl):
 aH P cfg C nt ⟨some d,.call ⟨.value g,as,ats⟩,ty,pos,aft,gd⟩ (mk A B)=some (mk ((d,v)::A) B):=by
 obtain ⟨h1,h2⟩:=Bool.or_eq_false_iff.1 hfr
 obtain ⟨h2,h3⟩:=Bool.or_eq_false_iff.1 h2
 exact oCa hc (.inl (pr2 hg).1) (pr2 hg).2 (by rw [List.map_nil,List.append_nil];exact hK) (by rw [List.map_nil,List.append_nil]) hp hs (by rw [List.map_nil,h1];rfl) pb0 h2 hi hv h3
theorem c1 {g:Operand} {h:FuncId} {as:Array Operand} {ats:Array TypeId} {pk:List (PM×List (Option Nat))} {pre:List (Option Arg)} {args:List Arg} {bor:List Nat} {tag fO:Nat} {res:Res} {a:AV}
 (hc:C h args=some (res,[])) (hK:aJ P cfg h 0 ats.toList=pk) (hg:((mk A B).get g,ats.size.beq as.size&&F5 nt (some d))=(.fn h [],true))
 (hp:Bj (mk A B) pk (as.toList.map (mk A B).get)=some (pre,mk A B)) (hs:MP (mk A B) pk (as.toList.map (mk A B).get) pre=some ⟨args,bor,[],tag,fO⟩)
 (hi:uX d (ja B d).2 (DV (!bor.isEmpty) tag fO) res []=some ([(false,[.im 0 a])],[])) (hfr:(overlap bor []||(abZ res||(cfg.fresh h (some d)||cfg.unf h (some d))))=false:=by exact rfl):
 aH P cfg C nt ⟨some d,.call ⟨.value g,as,ats⟩,ty,pos,aft,gd⟩ (mk A B)=some (mk ((d,.v false [.im 0 a])::A) B):=cA hc hK hg hp hs hi rfl hfr
theorem cR {g:Operand} {h:FuncId} {as:Array Operand} {ats:Array TypeId} {pk:List (PM×List (Option Nat))} {pre:List (Option Arg)} {args:List Arg} {bor:List Nat} {tag fO:Nat} {res:Res} {vs:List (Bool×List RV)} {v:SV} {c:CV} {cs:List CV}
 (hc:C h args=some (res,[])) (hK:aJ P cfg h 0 ats.toList=pk) (hg:((mk A B).get g,ats.size.beq as.size&&F5 nt (some d))=(.fn h [],true))
 (hp:Bj (mk A B) pk (as.toList.map (mk A B).get)=some (pre,mk A B)) (hs:MP (mk A B) pk (as.toList.map (mk A B).get) pre=some ⟨args,bor,[],tag,fO⟩)
 (hi:uX d (ja B d).2 (DV (!bor.isEmpty) tag fO) res []=some (vs,c::cs)) (hv:F6 vs=v) (hfr:(overlap bor []||(abZ res||(cfg.fresh h (some d)||cfg.unf h (some d))))=false:=by exact rfl):
 aH P cfg C nt ⟨some d,.call ⟨.value g,as,ats⟩,ty,pos,aft,gd⟩ (mk A B)=some (mk ((d,v)::A) ((d,some (zg (ja B d) false false (c::cs)))::B)):=by
 obtain ⟨h1,h2⟩:=Bool.or_eq_false_iff.1 hfr
 obtain ⟨h2,h3⟩:=Bool.or_eq_false_iff.1 h2
 exact oCr hc (.inl (pr2 hg).1) (pr2 hg).2 (by rw [List.map_nil,List.append_nil];exact hK) (by rw [List.map_nil,List.append_nil]) hp hs (by rw [List.map_nil,h1];rfl) pb0 h2 hi hv h3
theorem rn {α:Type} {a r:α} (h:some a=some r):a=r:=by cases h;rfl
end
end Go.Sim
