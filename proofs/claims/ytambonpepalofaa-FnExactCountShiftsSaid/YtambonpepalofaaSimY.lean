/- The machine is sound: what it answers, a call answers. Conditions: none. -/
import Derived.Test.YtambonpepalofaaSimX
namespace Go.Sim
open Classical
set_option linter.unusedSimpArgs false
set_option linter.unusedVariables false
noncomputable section
section
variable {P:Program} {cfg:Cfg} {callF:FuncId→List Arg→Option (Res×List Out)} {B:Base} {st st':St} {a:Act} {w:World} {W:Wit} {o:Oper} {nt f:Nat} {ops:Array Oper}
theorem opsOK (hF:FunOK P cfg callF) (hE:Enters P callF) (B:Base) (hB:BOK cfg.gb B):OpsOK P cfg callF B:=by
 intro o st st' a w W h e
 cases ho:o.op with
 | move x=>exact ok_move h rfl ho e
 | assign x=>exact ok_assign h rfl ho e
 | pick c x y=>exact ok_pick h rfl ho e
 | alloc t=>exact ok_alloc h rfl ho e
 | box t x=>exact ok_box h rfl ho e
 | build t ps=>exact ok_build h rfl ho e
 | buildSlice t n ps=>exact ok_buildSlice h rfl ho e
 | load t x=>exact ok_load h rfl ho e
 | store t p x=>exact ok_store h rfl ho e
 | nilCheck x=>exact ok_nilCheck h rfl ho e
 | binOp op t x y t2=>exact ok_binOp h rfl ho e
 | unOp op t x=>exact ok_unOp h rfl ho e
 | convert s t x=>exact ok_convert h rfl ho e
 | makeFunc fn first caps=>
  cases fn with
  | func f=>exact ok_makeFunc h rfl ho e
  | _=>simp [evOp,ho] at e
 | makeSlice t n c=>exact ok_makeSlice h rfl ho e
 | slice t x lo hi mx=>
  cases mx with
  | none=>exact ok_slice h rfl ho e
  | some _=>simp [evOp,ho] at e
 | fieldAddr s x f=>exact ok_fieldAddr h rfl ho e
 | field t x f=>exact ok_field h rfl ho e
 | indexAddr t x i=>exact ok_indexAddr h rfl ho e
 | index t x i=>exact ok_index h rfl ho e
 | extract x i=>exact ok_extract h rfl ho e
 | call c=>
  cases hc:c.callee with
  | builtin b=>
   cases b with
   | len=>exact ok_len h rfl hc ho e
   | min=>exact ok_min h rfl hc ho e
   | max=>exact ok_max h rfl hc ho e
   | append=>exact ok_append h rfl hc ho e
   | _=>simp [evOp,ho,hc] at e
  | value g=>exact ok_call hF hB hE h rfl hc ho e
  | _=>simp [evOp,ho,hc] at e
 | _=>simp [evOp,ho] at e
def Plain (P:Program) (f:FuncId):Prop:=∃fn,P.funcs[f]?=some fn∧fn.body.isNone=false∧(fn.name=="runtime.NumGoroutine")=false
structure CfgOK (P:Program) (cfg:Cfg):Prop where
 mix:P.follows .mixedOrders=true
 code:∀f fn c,cfg.on f=true→P.funcs[f]?=some fn→fn.body=some c→codeGood (cfg.fc f) c=true
 name:∀f fn,cfg.on f=true→P.funcs[f]?=some fn→(fn.name=="runtime.NumGoroutine")=false
 ext:∀f g,cfg.ext f=some g→Plain P f∧∀args res,g args=some res→∀(w:World) (vs:List Value) (W:Wit),vs.length=args.length→BOK cfg.gb (baseIn w W 0)→(∀n,vs.length≤n→Rel (baseIn w W n) (entry args) (startAct vs n) w W)→
  Calls P f vs.toArray w fun e w'=>∃v n,e= .returned v∧Returned cfg f (baseIn w W n) args res [] w' v
theorem evF_ok (hc:CfgOK P cfg):∀n,FunOK P cfg (evF P cfg n)∧Enters P (evF P cfg n)
 | 0=>⟨(fun f args res outs e=>by cases e),(fun f args r e=>by cases e)⟩
 | n+1=>by
  obtain ⟨ih1,ih2⟩:=evF_ok hc n
  refine ⟨fun f args res outs e=>?_,fun f args r e=>?_⟩
  ·intro w vs W hl hB hr
   simp only [evF] at e
   cases hx:cfg.ext f with
   | some g=>
    rw [hx] at e
    obtain ⟨r,h1,h2⟩:=Option.map_eq_some_iff.1 e
    cases h2
    exact (hc.ext f g hx).2 args _ h1 w vs W hl hB hr
   | none=>
    rw [hx] at e
    simp only at e
    split at e
    ·rename_i hon
     obtain ⟨fn,hf,e⟩:=Option.bind_eq_some_iff.1 e
     exact evBody_ok hc.mix (opsOK ih1 ih2) hf (fun c hb=>hc.code f fn c hon hf hb) e w vs W hl hB hr
    ·cases e
  ·simp only [evF] at e
   cases hx:cfg.ext f with
   | some g=>exact (hc.ext f g hx).1
   | none=>
    rw [hx] at e
    simp only at e
    split at e
    ·rename_i hon
     obtain ⟨fn,hf,e⟩:=Option.bind_eq_some_iff.1 e
     refine ⟨fn,hf,?_,hc.name f fn hon hf⟩
     unfold evBody at e
     split at e
     ·cases e
     ·obtain ⟨c,hb,_⟩:=Option.bind_eq_some_iff.1 e
      rw [hb];rfl
    ·cases e
end
end
end Go.Sim
