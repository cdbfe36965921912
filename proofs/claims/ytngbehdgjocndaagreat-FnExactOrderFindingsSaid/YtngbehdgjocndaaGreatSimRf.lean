/- Small words for the printed proofs. Conditions: none. -/
import Derived.Test.YtngbehdgjocndaaGreatSimRo
import Derived.Laws.Strings
namespace Go.Sim
open Go.Pw
set_option linter.unusedSimpArgs false
set_option linter.unusedVariables false
def ad4 (ons:List (Nat×Bool)) (fcs:List (Nat×bC)) (ext:List (Nat×Option (List Arg→Option (Res×List Out)))) (dps:List (Nat×Nat):=[]) (gb:List (Nat×(Array Value→Prop)):=[]) (frs:List (Nat×Nat):=[]) (ufs:List (Nat×Nat):=[]):Cfg:=
 {on:=look false ons,fc:=look ⟨[],[],[],[],[],[],[]⟩ fcs,ext:=look none ext,dps:=dps,gb:=gb,frs:=frs,ufs:=ufs}
theorem bs {α β:Type} {x:Option α} {g:α→Option β} {r:β} (h:x.bind g=some r):∃a,x=some a∧g a=some r:=Option.bind_eq_some_iff.1 h
theorem byF {b:Bool} {p:Prop} (i:b=true↔p) (h:¬p):b=false:=by
 cases b with
 | true=>exact absurd (i.1 rfl) h
 | false=>rfl
theorem nT {b:Bool} (h:b=false):(!b)=true:=by rw [h];rfl
theorem nF {b:Bool} (h:b=true):(!b)=false:=by rw [h];rfl
theorem SN {b:Bool} {p:Prop} (i:b=true↔p):(!b)=true↔¬p:=by
 rw [←i];cases b<;>simp
theorem BG {a b:Bool} {p q:Prop} (i:a=true↔p) (j:b=true↔q):(a&&b)=true↔(p∧q):=by
 rw [←i,←j,Bool.and_eq_true]
theorem iOr {a b:Bool} {p q:Prop} (i:a=true↔p) (j:b=true↔q):(a||b)=true↔(p∨q):=by
 rw [←i,←j,Bool.or_eq_true]
theorem ah {p:Prop} [Decidable p]:decide p=true↔p:=decide_eq_true_iff
theorem iEq {a b:Int}:(a==b)=true↔a=b:=beq_iff_eq
theorem iNe {a b:Int}:(a != b)=true↔a≠b:=bne_iff_ne
theorem zu {a b:ByteArray}:(a.toList==b.toList)=true↔a=b:=by
 rw [beq_iff_eq]
 constructor
 ·intro h
  have h1:a.data.toList=b.data.toList:=by
   have ha:a.toList=a.data.toList:=ByteArray.toList_eq a
   have hb:b.toList=b.data.toList:=ByteArray.toList_eq b
   rw [←ha,←hb];exact h
  cases a;cases b
  simp at h1
  rw [h1]
 ·intro h;rw [h]
noncomputable section
variable {P:Program} {cfg:Cfg} {f nt:Nat} {ops:Array Oper} {ks:List Fr} {st st' st1 X:St} {Q:Ex×St→Prop} {a b c:Code}
theorem Unw.ret (h:Q (.ret,st)):Unw P cfg f nt ks (.ret,st) Q:=by
 induction ks with
 | nil=>exact h
 | cons k ks ih=>cases k<;>exact ih
theorem Go.r0 {F:bC} (hc:cfg.fc f=F) {id:Nat} (hn:look none F.inn id=none) (hn':look none F.out id=none) (hsh:(F.shut.any fun y=>y.beq id)=false)
 (he:evL P cfg f nt (FL P cfg) ops ops.toList st=some st') (h:Unw P cfg f nt ks (.normal,st') Q):Go P cfg f nt (.region id ops false) ks st Q:=
 Go.reg (k:=none) (k':=none) (by rw [hc];exact hn) (by rw [hc];exact hn') (x:=false) (by rw [hc];exact hsh) rfl he h
theorem Go.r1 {F:bC} (hc:cfg.fc f=F) {id:Nat} {k:List Nat×List Nat} (hn:look none F.inn id=some k) (hn':look none F.out id=none) {x:Bool} (hsh:(F.shut.any fun y=>y.beq id)=x) (hs:(st.shut x).norm k=st1)
 (he:evL P cfg f nt (FL P cfg) ops ops.toList st1=some st') (h:Unw P cfg f nt ks (.normal,st') Q):Go P cfg f nt (.region id ops false) ks st Q:=
 Go.reg (k:=some k) (k':=none) (by rw [hc];exact hn) (by rw [hc];exact hn') (x:=x) (by rw [hc];exact hsh) hs he h
theorem Go.rX {F:bC} (hc:cfg.fc f=F) {id:Nat} {k k':Option (List Nat×List Nat)} (hn:look none F.inn id=k) (hn':look none F.out id=k') (hsh:(F.shut.any fun y=>y.beq id)=false) (hs:st.xR k=st1) (X:St)
 (he:∃st',evL P cfg f nt (FL P cfg) ops ops.toList st1=some st'∧st'.xR k'=X) (h:Unw P cfg f nt ks (.normal,X) Q):Go P cfg f nt (.region id ops false) ks st Q:=by
 obtain ⟨st',h1,h2⟩:=he
 exact Go.reg (k:=k) (k':=k') (by rw [hc];exact hn) (by rw [hc];exact hn') (x:=false) (by rw [hc];exact hsh) hs h1 (by rw [h2];exact h)
theorem Go.dr {F:bC} (hc:cfg.fc f=F) {id:Nat} {k k':Option (List Nat×List Nat)} {s:Sch} (hn:look none F.inn id=k) (hn':look none F.out id=k') (hsc:look .stop F.sch id=s) (hsh:(F.shut.any fun y=>y.beq id)=false) (hs:st.xR k=st1) (X:St)
 (he:gp P cfg (FL P cfg) f nt ops k' [] s st1=some X) (h:Unw P cfg f nt ks (.normal,X) Q):Go P cfg f nt (.region id ops true) ks st Q:=
 Go.draw (by rw [hc];exact hn) (by rw [hc];exact hn') (by rw [hc];exact hsc) (by rw [hc];exact hsh) hs he h
theorem Go.lp {F:bC} (hc:cfg.fc f=F) {σ ρ:Type} {k:List Nat×List Nat} (hk:look ([],[]) F.aO (tV c)=k) (g:σ→Option (σ ⊕ ρ)) (S:σ→St) (O:ρ→Ex×St→Prop) {s0:σ} {r:ρ}
 (hg:aT g s0=some r) (hs:st.norm k=S s0) (hne:∀r p,O r p→p.1≠ .normal)
 (hstep:∀s o,g s=some o→Go P cfg f nt c [] (S s) (fun p=>match o with | .inl s'=>p.1= .normal∧p.2.norm k=S s' | .inr r=>O r p))
 (h:∀p,O r p→Unw P cfg f nt ks p Q):Go P cfg f nt (.loop c) ks st Q:=
 Go.loop (by rw [hc];exact hk) g S O hg hs hne hstep h
theorem AQ {fn:Func} {args:List Arg} {r:Res×List Out} {cd:Code} {A:List (Nat×SV)} {B:List (Nat×Option Obj)} (hx:cfg.ext f=none) (hon:cfg.on f=true) (hf:P.funcs[f]?=some fn) (hl:Nat.ble args.length fn.ntmps=true) (hb:fn.body=some cd) (hnt:fn.ntmps=nt) (hs:entry args=mk A B)
 (h:Go P cfg f nt cd [] (mk A B) (Fin P cfg f fn args r)):FL P cfg f args=some r:=by
 subst hnt
 exact aly hx hon hf hl hb (by rw [hs];exact h)
end
end Go.Sim
