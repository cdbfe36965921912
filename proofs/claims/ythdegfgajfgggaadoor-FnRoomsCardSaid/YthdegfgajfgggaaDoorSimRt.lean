/- strconv.FormatInt at base 10 by the shelf's contract, for the machine. Conditions: none. -/
import Derived.Test.YthdegfgajfgggaaDoorSimRk
import Derived.Test.YthdegfgajfgggaaDoorSimPs
import Derived.Lib.LaidTab
import Derived.Deep.Draws
import Derived.Sort.Grow
namespace Go.Sim
open Go.Pw
set_option linter.unusedSimpArgs false
set_option linter.unusedVariables false
def extFmt:List Arg→Option Res
 | [.im _ false [.sc (.int .i64 n)],.im _ false [.sc (.int .i64 b)]]=>if b=10∧-9223372036854775808≤n∧n≤9223372036854775807 then some [(false,[.im 0 (.sc (.string (dcm n)))])] else none
 | _=>none
def powName:String:="internal/strconv.uint64pow10"
def powTab:Array Value:=(Go.Lib.pow10Tab.map fun z=>Value.int .u64 z).toArray
section
variable {P:Program} {cfg:Cfg} {B:Base} {st:St} {a:Act} {w w':World} {W:Wit} {f:FuncId}
theorem FL_fmt {g t1 t2:Nat} {n:Int} {r:ByteArray} (hx:cfg.ext g=some extFmt) (h:fmtI n=some r):FL P cfg g [.im t1 false [.sc (.int .i64 n)],.im t2 false [.sc (.int .i64 10)]]=some ([(false,[.im 0 (.sc (.string r))])],[]):=by
 unfold fmtI at h
 split at h
 ·rename_i hc
  cases h
  refine FL_iff.2 ⟨1,?_⟩
  simp only [evF,hx,extFmt,true_and,if_pos hc,Option.map_some]
 ·cases h
theorem Rel.grown (h:Rel B st a w W) (hio:w'.os=w.os∧w'.output=w.output) (hs:w.heap.size≤w'.heap.size) (hh:∀b,b<w.heap.size→w'.heap[b]?=w.heap[b]?):Rel B st a w' W:=by
 have hF:∀t b,W.F (tg t) b→W.F (tg t) b∧w'.heap[b]?=w.heap[b]?:=fun t b hb=>⟨hb,hh b (h.flt b (h.f2 hb))⟩
 have ho:∀b x,W.own b=some x→w'.heap[b]?=w.heap[b]?:=fun b x hb=>hh b (h.olt b x hb).1
 have:=h.step (L':=st.L) (w':=w') (W':=W) hio (fun _ _ hb=>hb) h.f01 h.f12 (fun _ _ hb=> .inl hb) h.fown (fun b hb=>Nat.lt_of_lt_of_le (h.flt b hb) hs)
  (fun b x hb=>⟨Nat.lt_of_lt_of_le (h.olt b x hb).1 hs,(h.olt b x hb).2⟩) (fun b hb=>hh b (h.flt b hb)) (Ext.refl _ _) (fun o ob hL hi=>⟨ob,hL,hi,rfl,rfl,fun _=>rfl⟩)
  (fun o ob hL=>(h.objs o ob hL).keep hF rfl rfl (fun _=>rfl) (fun _=>rfl) (fun c b hb=>⟨hb,ho b _ hb⟩) fun hm=>by
    obtain ⟨arr,T,fr,k1,k2,k3,k4,k5⟩:=(h.objs o ob hL).mem hm
    cases hf:ob.fz with
    | false=>exact ⟨ho _ _ (k4 hf),fun _=>k4 hf⟩
    | true=>exact ⟨hh _ (h.flt _ (h.f2 (t:=0) (k5 hf))),fun e=>by cases e⟩)
  (fun b hb hl=>hh b (Nat.lt_of_lt_of_le hb h.size)) hs
 exact this
theorem fmt_ext {g:Nat} (hC:∀n:Int,-9223372036854775808≤n→n≤9223372036854775807→∀w:World,Go.Lib.TabIs P w powName .u64 Go.Lib.pow10Tab→
 Calls P f #[.int .i64 n,.int .i64 10] w fun e w'=>e= .returned (.string ⟨(Go.Lib.itoa n).toArray⟩)∧∃k os,w'=Go.Sort.grow (w.drewN k) os)
 (hg:P.globalNamed powName=some g) (hm:(g,(·=powTab))∈cfg.gb) (hp:Plain P f):
 Plain P f∧∀args res,extFmt args=some res→∀(w:World) (vs:List Value) (W:Wit),vs.length=args.length→BOK cfg.gb (baseIn w W 0)→(∀n,vs.length≤n→Rel (baseIn w W n) (entry args) (startAct vs n) w W)→
  Calls P f vs.toArray w fun e w'=>∃v n,e= .returned v∧Returned cfg f (baseIn w W n) args res [] w' v:=by
 refine ⟨hp,fun args res hx w vs W hl hB hr=>?_⟩
 unfold extFmt at hx
 split at hx
 ·rename_i t1 n t2 b
  split at hx
  ·rename_i hc
   cases hx
   obtain ⟨rfl,hc1,hc2⟩:=hc
   have hr2:=hr 2 (by rw [hl];exact Nat.le_refl _)
   obtain ⟨u,v,rfl⟩:∃u v,vs=[u,v]:=by
    match vs,hl with
    | [u,v],_=>exact ⟨u,v,rfl⟩
   have e1:u= .int .i64 n:=by
    have:=hr2.slots 0
    rcases this with ⟨h1,_⟩ | ⟨_,r,h2,h3⟩
    ·cases h1
    ·cases h2
     have h3:CRi w _ [AV.sc (.int .i64 n)] [u]:=h3
     cases h3;rfl
   have e2:v= .int .i64 10:=by
    have:=hr2.slots 1
    rcases this with ⟨h1,_⟩ | ⟨_,r,h2,h3⟩
    ·cases h1
    ·cases h2
     have h3:CRi w _ [AV.sc (.int .i64 10)] [v]:=h3
     cases h3;rfl
   subst e1 e2
   obtain ⟨b1,b2,arr,T,fr,b3,b4⟩:=hB _ hm
   have b4:arr=powTab:=b4
   subst b4
   have htab:Go.Lib.TabIs P w powName .u64 Go.Lib.pow10Tab:=by
    show (P.globalNamed powName).bind _=_
    rw [hg,Option.bind_some]
    have b3:w.heap[g]?=some (.cells powTab T fr):=b3
    rw [b3];rfl
   refine Calls.mono (hC n hc1 hc2 w htab) fun x w' hw=>?_
   obtain ⟨rfl,k,os,rfl⟩:=hw
   refine ⟨_,2,rfl,_,_,W,[_],hr2.grown ⟨rfl,rfl⟩ ?_ ?_,.inr (.one (.im (.sc rfl .nil) .nil) .nil),rfl,rfl⟩
   ·show w.heap.size≤(w.heap++os).size
    simp
   ·intro b hb
    show (w.heap++os)[b]?=w.heap[b]?
    rw [Array.getElem?_append_left hb]
  ·cases hx
 ·cases hx
end
end Go.Sim
