/- Short words for printed proofs: values, states, and the rules with their facts found by themselves. Conditions: none. -/
import Derived.Test.YtngbehdgjocndaaGreatSimRm
import Derived.KernelRfl
namespace Go.Sim
open Go.Pw
set_option linter.unusedVariables false
set_option linter.unusedSimpArgs false
abbrev I (n:Int):AV:= .sc (.int .i64 n)
abbrev V (b:Bool):AV:= .sc (.bool b)
abbrev Y (s:ByteArray):AV:= .sc (.string s)
abbrev N:AV:= .sc (.pointer none)
abbrev W {α:Type} (sz:Nat) (e:α→AV) (l:List α):AV:= .row sz (List.map e l)
abbrev D (t:Nat) (a:AV):SV:= .v false [.im t a]
abbrev M (o:Nat):SV:= .v false [.mp o 0 0]
abbrev H (o c:Nat):SV:= .v false [.own o 0 c]
abbrev E (t:Nat) (l:List AV):List RV:=l.map (.im t)
abbrev F (t:Nat) (l:List AV):List RV:=l.map fun a=> .im (dm t a) a
def aoi:AV→RV
 | .sc v=> .im 0 (.sc v)
 | a=> .fr a
abbrev X (l:List AV):List RV:=l.map aoi
abbrev S (l:List AV):List RV:=l.map RV.ws
abbrev Q (l:List AV):List Cell:=l.map fun a=>⟨.ws,0,0,a⟩
def aoj:AV→Cell
 | .sc v=>⟨.imm,0,0,.sc v⟩
 | a=>⟨.fr,0,0,a⟩
def aok:AV→Cell
 | .sc v=>⟨.imm,0,0,.sc v⟩
 | a=>⟨.ws,0,0,a⟩
abbrev K (l:List AV):List Cell:=l.map aoj
abbrev Kw (l:List AV):List Cell:=l.map aok
abbrev C (a:AV):Cell:=⟨.imm,0,0,a⟩
abbrev Z (a:AV):Cell:=⟨.sh,0,0,a⟩
abbrev G (t:Nat) (l:List AV):List Cell:=l.map fun a=>⟨.imm,0,dm t a,a⟩
abbrev Oa (cs:List Cell):Option Obj:=some ⟨0,0,false,true,false,true,cs⟩
abbrev Ob (cs:List Cell):Option Obj:=some ⟨0,0,false,true,false,false,cs⟩
abbrev Oc (cs:List Cell):Option Obj:=some ⟨0,0,false,false,false,false,cs⟩
abbrev Oe (cs:List Cell):Option Obj:=some ⟨0,0,true,false,false,false,cs⟩
abbrev J (t:Nat) (l:List AV):List PC:=l.map fun a=> .im (dm t a) a
abbrev B0 (l:List (Bool×List PC)):Res×List Out:=(l,[])
universe u
theorem j {α:Sort u} {a:α}:a=a:=rfl
theorem kr {α:Type} {a b:α} (h:a=b:=by kernel_rfl):a=b:=h
abbrev z0:RV:= .im 0 (.sc (.int .i64 0))
abbrev z1:RV:= .im 0 (.sc (.string ⟨#[]⟩))
def rg:List Nat→List Nat
 | a::b::r=>List.range' a (b - a)++rg r
 | _=>[]
class Zf (cfg:Cfg) (f:Nat):Prop where
 z:(cfg.fc f).frz=[]
class Cf (cfg:Cfg) (f:Nat) (F:outParam bC):Prop where
 c:cfg.fc f=F
theorem iR {p:Prop}:p↔p:=Iff.rfl
theorem ic {p:Prop} {i:Decidable p} {α:Type} {T E:Option α} {r:α} {G:Prop} (h:(if p then T else E)=some r) (h1:p→T=some r→G) (h2:¬p→E=some r→G):G:=by
 by_cases hp:p
 ·rw [if_pos hp] at h;exact h1 hp h
 ·rw [if_neg hp] at h;exact h2 hp h
def enA:Nat→List Arg→List (Nat×SV)
 | _,[]=>[]
 | j,.im t ag cs::r=>(j,.v ag (cs.map (.im t)))::enA (j+1) r
 | j,_::r=>enA (j+1) r
def Arg.ajB:Arg→Bool
 | .im ..=>true
 | _=>false
theorem Xy:∀(args:List Arg) (k:Nat),args.all Arg.ajB=true→(args.zipIdx k).map (fun p=>(p.2,(y9 p.2 p.1).1))=enA k args∧∀i,look none ((args.zipIdx k).map fun p=>(p.2,(y9 p.2 p.1).2)) i=none
 | [],k,_=>⟨rfl,fun _=>rfl⟩
 | .im t ag cs::r,k,h=>by
  obtain ⟨h1,h2⟩:=Xy r (k+1) h
  refine ⟨?_,fun i=>?_⟩
  ·rw [List.zipIdx_cons,List.map_cons,h1];rfl
  ·rw [List.zipIdx_cons,List.map_cons]
   show (bif i.beq k then none else look none _ i)=none
   rw [h2]
   cases Nat.beq i k<;>rfl
 | .ptr _ _::_,_,h=>by cases h
 | .ow _ _::_,_,h=>by cases h
 | .mv _ _::_,_,h=>by cases h
 | .mvs _::_,_,h=>by cases h
 | .ws _ _::_,_,h=>by cases h
theorem ad5 {args:List Arg} (h:args.all Arg.ajB=true):entry args=mk (enA 0 args) []:=by
 obtain ⟨h1,h2⟩:=Xy args 0 h
 unfold entry mk
 simp only [List.map_map]
 congr 1
 ·rw [←h1];rfl
 ·funext i;exact h2 i
noncomputable section
variable {P:Program} {cfg:Cfg} {C:yc} {f nt:Nat} {ops:Array Oper} {l:List Oper} {ks:List Fr} {st st' st1 X:St} {Q:Ex×St→Prop} {a b c:Code} {A:List (Nat×SV)} {B:List (Nat×Option Obj)}
variable {d:Nat} {op:Op} {dst:Option Tmp} {ty:TypeId} {pos:String} {aft:Array Edge}
def Lx (P:Program) (cfg:Cfg) (f nt:Nat) (C:yc) (ops:Array Oper) (l:List Oper) (st:St) (k:Option (List Nat×List Nat)) (X:St):Prop:=∃s,evL P cfg f nt C ops l st=some s∧s.xR k=X
theorem gn {fn:Func} {args:List Arg} {r:Res×List Out} {cd:Code} (nt:Nat) (hf:P.funcs[f]?=some fn) (hb:fn.body=some cd) (h:Go P cfg f nt cd [] (mk (enA 0 args) []) (Fin P cfg f fn args r))
 (hx:cfg.ext f=none:=by exact rfl) (hon:cfg.on f=true:=by exact rfl) (hl:Nat.ble args.length fn.ntmps=true:=by exact rfl) (hnt:fn.ntmps=nt:=by exact rfl) (ha:args.all Arg.ajB=true:=by exact rfl):FL P cfg f args=some r:=
 AQ hx hon hf hl hb hnt (ad5 ha) h
theorem gs (h:Go P cfg f nt a (.seq b::ks) st Q):Go P cfg f nt (.seq a b) ks st Q:=Go.seq h
theorem us (h:Go P cfg f nt b ks st Q):Unw P cfg f nt (.seq b::ks) (.normal,st) Q:=h
theorem ux {i:Nat} (h:Unw P cfg f nt ks (.exit i,st) Q):Unw P cfg f nt (.seq b::ks) (.exit i,st) Q:=h
theorem g0 {F:bC} [hc:Cf cfg f F] {id:Nat} (hn:look none F.inn id=none) (hn':look none F.out id=none)
 (he:evL P cfg f nt (FL P cfg) ops ops.toList st=some st') (h:Unw P cfg f nt ks (.normal,st') Q) (hsh:(F.shut.any fun y=>y.beq id)=false:=by exact rfl):Go P cfg f nt (.region id ops false) ks st Q:=Go.r0 hc.c hn hn' hsh he h
theorem g1 {F:bC} [hc:Cf cfg f F] {id:Nat} {k:List Nat×List Nat} (hn:look none F.inn id=some k) (hn':look none F.out id=none) (st1:St)
 (he:evL P cfg f nt (FL P cfg) ops ops.toList st1=some st') (h:Unw P cfg f nt ks (.normal,st') Q) (hs:st.norm k=st1:=by kernel_rfl) (hsh:(F.shut.any fun y=>y.beq id)=false:=by exact rfl):Go P cfg f nt (.region id ops false) ks st Q:=Go.r1 hc.c hn hn' hsh hs he h
theorem gS {F:bC} [hc:Cf cfg f F] {id:Nat} {k:List Nat×List Nat} (hn:look none F.inn id=some k) (hn':look none F.out id=none) (st1:St)
 (he:evL P cfg f nt (FL P cfg) ops ops.toList st1=some st') (h:Unw P cfg f nt ks (.normal,st') Q) (hs:(st.shut true).norm k=st1:=by kernel_rfl) (hsh:(F.shut.any fun y=>y.beq id)=true:=by exact rfl):Go P cfg f nt (.region id ops false) ks st Q:=Go.r1 hc.c hn hn' hsh hs he h
theorem g2 {F:bC} (hc:cfg.fc f=F) {id:Nat} {k:List Nat×List Nat} (hn:look none F.inn id=some k) (hn':look none F.out id=none) (hs:st.norm k=st1)
 (he:evL P cfg f nt (FL P cfg) ops ops.toList st1=some st') (h:Unw P cfg f nt ks (.normal,st') Q) (hsh:(F.shut.any fun y=>y.beq id)=false:=by exact rfl):Go P cfg f nt (.region id ops false) ks st Q:=Go.r1 hc hn hn' (x:=false) hsh hs he h
theorem gX {F:bC} (hc:cfg.fc f=F) {id:Nat} {k k':Option (List Nat×List Nat)} (hn:look none F.inn id=k) (hn':look none F.out id=k') (hs:st.xR k=st1) (X:St)
 (he:Lx P cfg f nt (FL P cfg) ops ops.toList st1 k' X) (h:Unw P cfg f nt ks (.normal,X) Q) (hsh:(F.shut.any fun y=>y.beq id)=false:=by exact rfl):Go P cfg f nt (.region id ops false) ks st Q:=Go.rX hc hn hn' hsh hs X he h
theorem gd {F:bC} (hc:cfg.fc f=F) {id:Nat} {k k':Option (List Nat×List Nat)} {s:Sch} (hn:look none F.inn id=k) (hn':look none F.out id=k') (hsc:look .stop F.sch id=s) (hs:st.xR k=st1) (X:St)
 (he:gp P cfg (FL P cfg) f nt ops k' [] s st1=some X) (h:Unw P cfg f nt ks (.normal,X) Q) (hsh:(F.shut.any fun y=>y.beq id)=false:=by exact rfl):Go P cfg f nt (.region id ops true) ks st Q:=Go.dr hc hn hn' hsc hsh hs X he h
theorem gl {F:bC} (hc:cfg.fc f=F) {σ ρ:Type} {k:List Nat×List Nat} (hk:look ([],[]) F.aO (tV c)=k) (g:σ→Option (σ ⊕ ρ)) (S:σ→St) (O:ρ→Ex×St→Prop) {s0:σ} {r:ρ}
 (hg:aT g s0=some r) (hs:st.norm k=S s0) (hne:∀r p,O r p→p.1≠ .normal)
 (hstep:∀s o,g s=some o→Go P cfg f nt c [] (S s) (fun p=>match o with | .inl s'=>p.1= .normal∧p.2.norm k=S s' | .inr r=>O r p))
 (h:∀p,O r p→Unw P cfg f nt ks p Q):Go P cfg f nt (.loop c) ks st Q:=Go.lp hc hk g S O hg hs hne hstep h
theorem gT {x:Operand} {t:Nat} {v:Bool} (hx:st.get x= .v false [.im t (.sc (.bool v))]) (hv:v=true) (h:Go P cfg f nt a ks st Q):Go P cfg f nt (.cond x a b) ks st Q:=Go.aiA hx hv h
theorem gF {x:Operand} {t:Nat} {v:Bool} (hx:st.get x= .v false [.im t (.sc (.bool v))]) (hv:v=false) (h:Go P cfg f nt b ks st Q):Go P cfg f nt (.cond x a b) ks st Q:=Go.aiB hx hv h
theorem gc {x:Operand} {t:Nat} {v:Bool} {p:Prop} {i:Decidable p} {α:Type} {T E:Option α} {r:α} (h:(if p then T else E)=some r) (hx:st.get x= .v false [.im t (.sc (.bool v))]) (e:v=true↔p) (h1:p→T=some r→Go P cfg f nt a ks st Q) (h2:¬p→E=some r→Go P cfg f nt b ks st Q):Go P cfg f nt (.cond x a b) ks st Q:=by
 by_cases hp:p
 ·rw [if_pos hp] at h;exact Go.aiA hx (e.2 hp) (h1 hp h)
 ·rw [if_neg hp] at h;exact Go.aiB hx (byF e hp) (h2 hp h)
theorem fo {fn:Func} {args:List Arg} {res:Res} {outs:List Out} {rk:List (ResultVar×List (Option Nat)×Option (Bool×Nat))} {st2:St} (hk:La P (fn.results.toList.zip fn.resultTypes.toList)=rk)
 (hr:Xw st rk=some (res,st2)) (ho:vY cfg (st2.jG cfg f 0 args) f 0 args=some outs:=by kernel_rfl) (hsz:fn.results.size.beq fn.resultTypes.size=true:=by exact rfl):fin P cfg f fn args st=some (res,outs):=YL hsz hk hr ho
theorem fr {fn:Func} {args:List Arg} {res:Res} {outs:List Out} {rk:List (ResultVar×List (Option Nat)×Option (Bool×Nat))} {st2:St} (hk:La P (fn.results.toList.zip fn.resultTypes.toList)=rk)
 (hr:Xw st rk=some (res,st2)) (ho:vY cfg (st2.jG cfg f 0 args) f 0 args=some outs:=by kernel_rfl) (hsz:fn.results.size.beq fn.resultTypes.size=true:=by exact rfl):Fin P cfg f fn args (res,outs) (.ret,st):=di (YL hsz hk hr ho)
theorem gr {fn:Func} {args:List Arg} {res:Res} {outs:List Out} {rk:List (ResultVar×List (Option Nat)×Option (Bool×Nat))} {st2:St} (hk:La P (fn.results.toList.zip fn.resultTypes.toList)=rk)
 (hr:Xw st rk=some (res,st2)) (ho:vY cfg (st2.jG cfg f 0 args) f 0 args=some outs:=by kernel_rfl) (hsz:fn.results.size.beq fn.resultTypes.size=true:=by exact rfl):Go P cfg f nt .ret ks st (Fin P cfg f fn args (res,outs)):=Go.ret (Unw.ret (di (YL hsz hk hr ho)))
theorem q [z:Zf cfg f] (h:aH P cfg C nt ⟨dst,op,ty,pos,aft,none⟩ st=some st1) (hr:evL P cfg f nt C ops l st1=some X):evL P cfg f nt C ops (⟨dst,op,ty,pos,aft,none⟩::l) st=some X:=sq z.z h hr
theorem qT [z:Zf cfg f] {j t dj:Nat} {want v:Bool} (hj:(ops[j]?).bind (·.dst)=some dj) (hb:st.sl dj= .v false [.im t (.sc (.bool v))]) (hv:v=want)
 (h:aH P cfg C nt ⟨dst,op,ty,pos,aft,some (j,want)⟩ st=some st1) (hr:evL P cfg f nt C ops l st1=some X):evL P cfg f nt C ops (⟨dst,op,ty,pos,aft,some (j,want)⟩::l) st=some X:=sgT z.z hj hb hv h hr
theorem t [z:Zf cfg f] {k:Option (List Nat×List Nat)} {κ:List (List Nat×List Nat)} {i:Nat} {ws us:List Nat} {t:Sch} (hok:xU cfg f ops us i st=true) (hi:ops[i]?=some ⟨dst,op,ty,pos,aft,none⟩) (h:aH P cfg C nt ⟨dst,op,ty,pos,aft,none⟩ st=some st1) (ht:gp P cfg C f nt ops k κ t st1=some X):gp P cfg C f nt ops k κ (.first i ws us t) st=some X:=
 sT hok (dN z.z hi h) ht
theorem tT [z:Zf cfg f] {k:Option (List Nat×List Nat)} {κ:List (List Nat×List Nat)} {i:Nat} {ws us:List Nat} {t:Sch} {j tg dj:Nat} {want v:Bool} (hok:xU cfg f ops us i st=true) (hi:ops[i]?=some ⟨dst,op,ty,pos,aft,some (j,want)⟩) (hj:(ops[j]?).bind (·.dst)=some dj) (hb:st.sl dj= .v false [.im tg (.sc (.bool v))]) (hv:v=want)
 (h:aH P cfg C nt ⟨dst,op,ty,pos,aft,some (j,want)⟩ st=some st1) (ht:gp P cfg C f nt ops k κ t st1=some X):gp P cfg C f nt ops k κ (.first i ws us t) st=some X:=
 sT hok (dT z.z hi hj hb hv h) ht
theorem tF {k:Option (List Nat×List Nat)} {κ:List (List Nat×List Nat)} {i:Nat} {ws us:List Nat} {t:Sch} {j tg dj:Nat} {want v:Bool} (hok:xU cfg f ops us i (mk A B)=true) (hi:ops[i]?=some ⟨some d,op,ty,pos,aft,some (j,want)⟩) (hj:(ops[j]?).bind (·.dst)=some dj) (hb:(mk A B).sl dj= .v false [.im tg (.sc (.bool v))]) (hv:v=!want) (hd:Nat.blt d nt=true)
 (ht:gp P cfg C f nt ops k κ t (mk ((d,.tup [])::A) B)=some X):gp P cfg C f nt ops k κ (.first i ws us t) (mk A B)=some X:=
 sT hok (dF hi hj hb hv hd) ht
theorem aol {fz:List Nat} (hz:(cfg.fc f).frz=fz) (hd:fz.any (·.beq d)=false) {j t dj:Nat} {want v:Bool} (hj:(ops[j]?).bind (·.dst)=some dj) (hb:st.sl dj= .v false [.im t (.sc (.bool v))]) (hv:v=want)
 (h:aH P cfg C nt ⟨some d,op,ty,pos,aft,some (j,want)⟩ st=some st1) (hr:evL P cfg f nt C ops l st1=some X):evL P cfg f nt C ops (⟨some d,op,ty,pos,aft,some (j,want)⟩::l) st=some X:=by
 have hy:yields ops st j=some (some want):=by
  unfold yields
  rw [hj]
  simp only [hb,SV.bool?,hv,Option.map_some]
 simp only [evL,hy,Option.bind_some,if_true,h,Option.map_some,hz,hd,cond]
 exact hr
variable {k:Option (List Nat×List Nat)}
theorem xn (h:st.xR k=X:=by kernel_rfl):Lx P cfg f nt C ops [] st k X:=⟨st,rfl,h⟩
theorem xq [z:Zf cfg f] (h:aH P cfg C nt ⟨dst,op,ty,pos,aft,none⟩ st=some st1) (hr:Lx P cfg f nt C ops l st1 k X):Lx P cfg f nt C ops (⟨dst,op,ty,pos,aft,none⟩::l) st k X:=
 let ⟨s,a,b⟩:=hr;⟨s,q h a,b⟩
theorem xqT [z:Zf cfg f] {j t dj:Nat} {want v:Bool} (hj:(ops[j]?).bind (·.dst)=some dj) (hb:st.sl dj= .v false [.im t (.sc (.bool v))]) (hv:v=want)
 (h:aH P cfg C nt ⟨dst,op,ty,pos,aft,some (j,want)⟩ st=some st1) (hr:Lx P cfg f nt C ops l st1 k X):Lx P cfg f nt C ops (⟨dst,op,ty,pos,aft,some (j,want)⟩::l) st k X:=
 let ⟨s,a,b⟩:=hr;⟨s,qT hj hb hv h a,b⟩
theorem aom {j t dj:Nat} {want v:Bool} (hj:(ops[j]?).bind (·.dst)=some dj) (hb:(mk A B).sl dj= .v false [.im t (.sc (.bool v))]) (hv:v=!want) (hd:Nat.blt d nt=true)
 (hr:Lx P cfg f nt C ops l (mk ((d,.tup [])::A) B) k X):Lx P cfg f nt C ops (⟨some d,op,ty,pos,aft,some (j,want)⟩::l) (mk A B) k X:=
 let ⟨s,a,b⟩:=hr;⟨s,sgF hj hb hv hd a,b⟩
theorem oW {j dj:Nat} {want:Bool} (hj:(ops[j]?).bind (·.dst)=some dj) (hb:(mk A B).sl dj= .tup []) (hd:Nat.blt d nt=true)
 (hr:Lx P cfg f nt C ops l (mk ((d,.tup [])::A) B) k X):Lx P cfg f nt C ops (⟨some d,op,ty,pos,aft,some (j,want)⟩::l) (mk A B) k X:=
 let ⟨s,a,b⟩:=hr;⟨s,sgU hj hb hd a,b⟩
theorem ab1 {fz:List Nat} (hz:(cfg.fc f).frz=fz) (hd:fz.any (·.beq d)=false) (h:aH P cfg C nt ⟨some d,op,ty,pos,aft,none⟩ st=some st1) (hr:Lx P cfg f nt C ops l st1 k X):Lx P cfg f nt C ops (⟨some d,op,ty,pos,aft,none⟩::l) st k X:=
 let ⟨s,a,b⟩:=hr;⟨s,sqn hz hd h a,b⟩
theorem Uu {fz:List Nat} (hz:(cfg.fc f).frz=fz) (hd:fz.any (·.beq d)=false) {j t dj:Nat} {want v:Bool} (hj:(ops[j]?).bind (·.dst)=some dj) (hb:st.sl dj= .v false [.im t (.sc (.bool v))]) (hv:v=want)
 (h:aH P cfg C nt ⟨some d,op,ty,pos,aft,some (j,want)⟩ st=some st1) (hr:Lx P cfg f nt C ops l st1 k X):Lx P cfg f nt C ops (⟨some d,op,ty,pos,aft,some (j,want)⟩::l) st k X:=
 let ⟨s,a,b⟩:=hr;⟨s,aol hz hd hj hb hv h a,b⟩
end
end Go.Sim
