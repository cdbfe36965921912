/- strings.Cut by the shelf's contract, for the machine. Conditions: none. -/
import Derived.Test.YthdegfgajfgggaaDoorSimRt
namespace Go.Sim
open Go.Pw
set_option linter.unusedSimpArgs false
set_option linter.unusedVariables false
def extCut:List Arg→Option Res
 | [.im _ false [.sc (.string s)],.im _ false [.sc (.string sep)]]=>if s.size<4294967281 then some [(false,[.im 0 (.sc (.string (cutA s sep).1))]),(false,[.im 0 (.sc (.string (cutA s sep).2.1))]),(false,[.im 0 (.sc (.bool (cutA s sep).2.2))])] else none
 | _=>none
def isNum (arr:Array Value):Prop:=∃m:Int,arr[0]?=some (.int .i64 m)
section
variable {P:Program} {cfg:Cfg} {B:Base} {st:St} {a:Act} {w w':World} {W:Wit} {f:FuncId}
theorem FL_cut {g t1 t2:Nat} {s sep:ByteArray} {r:ByteArray×ByteArray×Bool} (hx:cfg.ext g=some extCut) (h:cutS s sep=some r):
 FL P cfg g [.im t1 false [.sc (.string s)],.im t2 false [.sc (.string sep)]]=some ([(false,[.im 0 (.sc (.string r.1))]),(false,[.im 0 (.sc (.string r.2.1))]),(false,[.im 0 (.sc (.bool r.2.2))])],[]):=by
 unfold cutS at h
 split at h
 ·rename_i hc
  cases h
  refine FL_iff.2 ⟨1,?_⟩
  simp only [evF,hx,extCut,if_pos hc,Option.map_some]
 ·cases h
theorem cut_ext {g:Nat} (hC:∀(s sep:ByteArray) (m:Int) (w:World),s.size<4294967281→w.cell? ⟨g,0,none⟩=some (.int .i64 m)→
 Calls P f #[.string s,.string sep] w fun e w'=>e= .returned (.tuple #[.string ⟨(Go.Lib.cut s.data.toList sep.data.toList).1.toArray⟩,.string ⟨(Go.Lib.cut s.data.toList sep.data.toList).2.1.toArray⟩,.bool (Go.Lib.cut s.data.toList sep.data.toList).2.2])∧∃n,w'=w.drewN n)
 (hm:(g,isNum)∈cfg.gb) (hp:Plain P f):
 Plain P f∧∀args res,extCut args=some res→∀(w:World) (vs:List Value) (W:Wit),vs.length=args.length→BOK cfg.gb (baseIn w W 0)→(∀n,vs.length≤n→Rel (baseIn w W n) (entry args) (startAct vs n) w W)→
  Calls P f vs.toArray w fun e w'=>∃v n,e= .returned v∧Returned cfg f (baseIn w W n) args res [] w' v:=by
 refine ⟨hp,fun args res hx w vs W hl hB hr=>?_⟩
 unfold extCut at hx
 split at hx
 ·rename_i t1 s t2 sep
  split at hx
  ·rename_i hc
   cases hx
   have hr2:=hr 2 (by rw [hl];exact Nat.le_refl _)
   obtain ⟨u,v,rfl⟩:∃u v,vs=[u,v]:=by
    match vs,hl with
    | [u,v],_=>exact ⟨u,v,rfl⟩
   have e1:u= .string s:=by
    have:=hr2.slots 0
    rcases this with ⟨h1,_⟩ | ⟨_,r,h2,h3⟩
    ·cases h1
    ·cases h2
     have h3:CRi w _ [AV.sc (.string s)] [u]:=h3
     cases h3;rfl
   have e2:v= .string sep:=by
    have:=hr2.slots 1
    rcases this with ⟨h1,_⟩ | ⟨_,r,h2,h3⟩
    ·cases h1
    ·cases h2
     have h3:CRi w _ [AV.sc (.string sep)] [v]:=h3
     cases h3;rfl
   subst e1 e2
   obtain ⟨b1,b2,arr,T,fr,b3,m,b4⟩:=hB _ hm
   have hcell:w.cell? ⟨g,0,none⟩=some (.int .i64 m):=by
    have b3:w.heap[g]?=some (.cells arr T fr):=b3
    simp only [World.cell?,b3,b4]
    rfl
   refine Calls.mono (hC s sep m w hc hcell) fun x w' hw=>?_
   obtain ⟨rfl,k,rfl⟩:=hw
   exact ⟨_,2,rfl,_,_,W,[_,_,_],hr2.grown ⟨rfl,rfl⟩ (Nat.le_refl _) (fun b hb=>rfl),.inr (.one (.im (.sc rfl .nil) .nil) (.one (.im (.sc rfl .nil) .nil) (.one (.im (.sc rfl .nil) .nil) .nil))),rfl,rfl⟩
  ·cases hx
 ·cases hx
end
end Go.Sim
