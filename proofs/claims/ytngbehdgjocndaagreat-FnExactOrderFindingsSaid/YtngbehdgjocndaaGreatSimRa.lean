/- How a piece of code runs on the machine without fuel: one rule for each kind of code. Conditions: none. -/
import Derived.Test.YtngbehdgjocndaaGreatSimZ
namespace Go.Sim
open Classical
set_option linter.unusedSimpArgs false
set_option linter.unusedVariables false
abbrev mk (A:List (Nat×SV)) (B:List (Nat×Option Obj)):St:=⟨look .qC A,look none B⟩
inductive Fr where
 | seq (b:Code)
 | blk (id:Nat)
noncomputable section
section
variable (P:Program) (cfg:Cfg) (f nt:Nat)
def R (c:Code) (st:St) (p:Ex×St):Prop:=∃n,dL P cfg (FL P cfg) f nt n c st=some p
def Unw:List Fr→Ex×St→(Ex×St→Prop)→Prop
 | [],p,Q=>Q p
 | .seq b::ks,(.normal,st),Q=>∃p,R P cfg f nt b st p∧Unw ks p Q
 | .seq _::ks,(e,st),Q=>Unw ks (e,st) Q
 | .blk id::ks,(.exit i,st),Q=>Unw ks (if i.beq id then .normal else .exit i,st) Q
 | .blk _::ks,(e,st),Q=>Unw ks (e,st) Q
def Go (c:Code) (ks:List Fr) (st:St) (Q:Ex×St→Prop):Prop:=∃p,R P cfg f nt c st p∧Unw P cfg f nt ks p Q
def evL (c:yc) (ops:Array Oper):List Oper→St→Option St
 | [],st=>some st
 | o::l,st=>
  ((let go:Option St:=(aH P cfg c nt o st).map fun (st:St)=>match o.dst with | some d=>bif (cfg.fc f).frz.any (·.beq d) then st.vV ((fC P o.type).getD []) d else st | none=>st
  match o.guard with
  | none=>go
  | some (j,want)=>(yields ops st j).bind fun y=>if y=some want then go else match o.dst with | some d=>if Nat.blt d nt then some (st.cZ d (.tup [])) else none | none=>some st)).bind (evL c ops l)
end
section
variable {P:Program} {cfg:Cfg} {f nt:Nat} {ops:Array Oper} {ks:List Fr} {st st' st1:St} {Q:Ex×St→Prop} {a b c:Code}
theorem Qs {n m:Nat} {p:Ex×St} (h:dL P cfg (FL P cfg) f nt n c st=some p) (hm:n≤m):dL P cfg (FL P cfg) f nt m c st=some p:=by
 obtain ⟨l,hl⟩:=qJ c h
 exact hl _ m hm fun _ _ _ hr=>hr
theorem Go.seq (h:Go P cfg f nt a (.seq b::ks) st Q):Go P cfg f nt (.seq a b) ks st Q:=by
 obtain ⟨⟨e,st1⟩,⟨n,hn⟩,hu⟩:=h
 cases e with
 | normal=>
  obtain ⟨q,⟨m,hm⟩,hu⟩:=hu
  refine ⟨q,⟨max n m,?_⟩,hu⟩
  simp only [dL,Qs hn (Nat.le_max_left _ _),Option.bind_some]
  exact Qs hm (Nat.le_max_right _ _)
 | exit i=>exact ⟨_,⟨n,by simp only [dL,hn,Option.bind_some]⟩,hu⟩
 | ret=>exact ⟨_,⟨n,by simp only [dL,hn,Option.bind_some]⟩,hu⟩
theorem Go.block {id:Nat} (h:Go P cfg f nt c (.blk id::ks) st Q):Go P cfg f nt (.block id c) ks st Q:=by
 obtain ⟨⟨e,st1⟩,⟨n,hn⟩,hu⟩:=h
 cases e with
 | exit i=>exact ⟨_,⟨n,by simp only [dL,hn,Option.map_some]⟩,hu⟩
 | normal=>exact ⟨_,⟨n,by simp only [dL,hn,Option.map_some]⟩,hu⟩
 | ret=>exact ⟨_,⟨n,by simp only [dL,hn,Option.map_some]⟩,hu⟩
theorem Go.skip (h:Unw P cfg f nt ks (.normal,st) Q):Go P cfg f nt .skip ks st Q:=⟨_,⟨0,rfl⟩,h⟩
theorem Go.exit {id:Nat} (h:Unw P cfg f nt ks (.exit id,st) Q):Go P cfg f nt (.exit id) ks st Q:=⟨_,⟨0,rfl⟩,h⟩
theorem Go.ret (h:Unw P cfg f nt ks (.ret,st) Q):Go P cfg f nt .ret ks st Q:=⟨_,⟨0,rfl⟩,h⟩
theorem Go.aiA {x:Operand} {t:Nat} {v:Bool} (hx:st.get x= .v false [.im t (.sc (.bool v))]) (hv:v=true) (h:Go P cfg f nt a ks st Q):Go P cfg f nt (.cond x a b) ks st Q:=by
 obtain ⟨p,⟨n,hn⟩,hu⟩:=h
 exact ⟨p,⟨n,by simp only [dL,hx,SV.bool?,Option.bind_some,hv,cond];exact hn⟩,hu⟩
theorem Go.aiB {x:Operand} {t:Nat} {v:Bool} (hx:st.get x= .v false [.im t (.sc (.bool v))]) (hv:v=false) (h:Go P cfg f nt b ks st Q):Go P cfg f nt (.cond x a b) ks st Q:=by
 obtain ⟨p,⟨n,hn⟩,hu⟩:=h
 exact ⟨p,⟨n,by simp only [dL,hx,SV.bool?,Option.bind_some,hv,cond];exact hn⟩,hu⟩
theorem Uo (C:yc) (ops:Array Oper):∀(l:List Oper) (k:Nat) (st:St),(∀i,l[i]?=ops[k+i]?)→KH P cfg C f nt ops (List.range' k l.length) st=evL P cfg f nt C ops l st
 | [],k,st,h=>by simp [KH,evL]
 | o::l,k,st,h=>by
  have h0:ops[k]?=some o:=by have:=h 0;simpa using this.symm
  have ht:∀i,l[i]?=ops[k+1+i]?:=fun i=>by have:=h (i+1);simp only [List.getElem?_cons_succ] at this;rw [this];congr 1;omega
  simp only [List.length_cons,List.range'_succ,KH,evL]
  have e1:oV P cfg C f nt ops k st=(let go:Option St:=(aH P cfg C nt o st).map fun (st:St)=>match o.dst with | some d=>bif (cfg.fc f).frz.any (·.beq d) then st.vV ((fC P o.type).getD []) d else st | none=>st
   match o.guard with
   | none=>go
   | some (j,want)=>(yields ops st j).bind fun y=>if y=some want then go else match o.dst with | some d=>if Nat.blt d nt then some (st.cZ d (.tup [])) else none | none=>some st):=by
   unfold oV
   rw [h0]
   simp only
   cases o.guard with
   | none=>rfl
   | some p=>
    obtain ⟨j,want⟩:=p
    simp only
    congr 1
    funext y
    split
    ·rfl
    ·cases o.dst<;>rfl
  rw [e1]
  congr 1
  funext st1
  exact Uo C ops l (k+1) st1 ht
theorem Go.reg {id:Nat} {k:Option (List Nat×List Nat)} (hn:look none (cfg.fc f).inn id=k) {k':Option (List Nat×List Nat)} (hn':look none (cfg.fc f).out id=k') {x:Bool} (hsh:((cfg.fc f).shut.any fun y=>y.beq id)=x) (hs:(st.shut x).xR k=st1)
 (he:evL P cfg f nt (FL P cfg) ops ops.toList st1=some st') (h:Unw P cfg f nt ks (.normal,st'.xR k') Q):Go P cfg f nt (.region id ops false) ks st Q:=by
 refine ⟨_,⟨0,?_⟩,h⟩
 simp only [dL,hn,hn',hsh,hs]
 have:=Uo (P:=P) (cfg:=cfg) (f:=f) (nt:=nt) (FL P cfg) ops ops.toList 0 st1 (fun i=>by simp)
 rw [←List.range_eq_range'] at this
 simp only [Array.length_toList] at this
 rw [this,he]
 rfl
theorem Go.draw {id:Nat} {k:Option (List Nat×List Nat)} (hn:look none (cfg.fc f).inn id=k) {k':Option (List Nat×List Nat)} (hn':look none (cfg.fc f).out id=k') {s:Sch} (hsc:look .stop (cfg.fc f).sch id=s) (hsh:((cfg.fc f).shut.any fun y=>y.beq id)=false) (hs:st.xR k=st1)
 (he:gp P cfg (FL P cfg) f nt ops k' [] s st1=some st') (h:Unw P cfg f nt ks (.normal,st') Q):Go P cfg f nt (.region id ops true) ks st Q:=by
 refine ⟨_,⟨0,?_⟩,h⟩
 have hs':(st.shut false).xR k=st1:=hs
 simp only [dL,hn,hn',hsc,hsh,hs',he]
 rfl
theorem Unw.seq (h:Go P cfg f nt b ks st Q):Unw P cfg f nt (.seq b::ks) (.normal,st) Q:=h
theorem Unw.blk {id:Nat} (h:Unw P cfg f nt ks (.normal,st) Q):Unw P cfg f nt (.blk id::ks) (.normal,st) Q:=h
theorem Unw.gz {id:Nat} (h:Unw P cfg f nt ks (.normal,st) Q):Unw P cfg f nt (.blk id::ks) (.exit id,st) Q:=by
 have e:id.beq id=true:=Nat.beq_refl id
 simpa only [Unw,e,if_true] using h
theorem Unw.nil {p:Ex×St} (h:Q p):Unw P cfg f nt [] p Q:=h
theorem Go.mono {Q':Ex×St→Prop} (h:Go P cfg f nt c [] st Q) (hq:∀p,Q p→Q' p):Go P cfg f nt c [] st Q':=by
 obtain ⟨p,h1,h2⟩:=h
 exact ⟨p,h1,hq p h2⟩
def fin (P:Program) (cfg:Cfg) (f:Nat) (fn:Func) (args:List Arg) (st:St):Option (Res×List Out):=
 (if fn.results.size.beq fn.resultTypes.size then st.ret P (fn.results.toList.zip fn.resultTypes.toList) else none).bind fun q=>(vY cfg (q.2.jG cfg f 0 args) f 0 args).map fun outs=>(q.1,outs)
def Fin (P:Program) (cfg:Cfg) (f:Nat) (fn:Func) (args:List Arg) (r:Res×List Out) (p:Ex×St):Prop:=(∀i,p.1≠ .exit i)∧fin P cfg f fn args p.2=some r
theorem aly {fn:Func} {args:List Arg} {r:Res×List Out} {cd:Code} (hx:cfg.ext f=none) (hon:cfg.on f=true) (hf:P.funcs[f]?=some fn) (hl:Nat.ble args.length fn.ntmps=true) (hb:fn.body=some cd)
 (h:Go P cfg f fn.ntmps cd [] (entry args) (Fin P cfg f fn args r)):FL P cfg f args=some r:=by
 obtain ⟨⟨e,st⟩,⟨n,hn⟩,h1,h2⟩:=h
 refine alx (n:=n) hx hon hf ?_
 unfold EL
 simp only [hl,Bool.not_true,Bool.false_eq_true,if_false,hb,Option.bind_some,hn]
 cases e with
 | exit i=>exact absurd rfl (h1 i)
 | normal=>exact h2
 | ret=>exact h2
end
end
end Go.Sim
