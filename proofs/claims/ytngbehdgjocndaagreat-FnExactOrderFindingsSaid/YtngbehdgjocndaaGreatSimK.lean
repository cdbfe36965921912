/- The remaining operations that only compute. Conditions: none. -/
import Derived.Test.YtngbehdgjocndaaGreatSimJ
import Derived.DeepKeys
namespace Go.Sim
variable [Lim]
open Classical
set_option linter.unusedSimpArgs false
set_option linter.unusedVariables false
noncomputable section
section
variable {P:Program} {cfg:Cfg} {aY:FuncId→List Arg→Option (Res×List Out)} {B:Base} {st st':St} {a:Act} {w:World} {W:Wit} {o:Oper} {nt:Nat}
omit [Lim] in
theorem ajb {op:UnOp} {x:SV} {u:Value} (h:unop op x=some u):plain u=true:=by
 unfold unop at h
 split at h<;>first | (cases h;rfl) | cases h
theorem agf (h:Rel B st a w W) (hn:nt=B.nt) {op:UnOp} {t:TypeId} {x:Operand} (ho:o.op= .unOp op t x) (e:aH P cfg aY nt o st=some st'):Good P B o st' a w:=by
 simp only [aH,ho] at e
 obtain ⟨u,hu,e⟩:=Option.bind_eq_some_iff.1 e
 refine gQ h hn (u:=u) ?_ (Jr (ajb hu)) e
 have hx:=h.get x
 unfold unop at hu
 split at hu
 ·rename_i b hb
  rw [hb] at hx
  cases hu
  simp [execOp,ho,(qI (eX hx)).1,Op.unary]
 ·rename_i k n hb
  rw [hb] at hx
  cases hu
  simp [execOp,ho,(qI (eX hx)).1,Op.unary,Op.intArith]
 ·cases hu
omit [Lim] in
theorem abD {op:BinOp} {k:IntKind} {x y:Int} {u:Value} (h:Jy op k x y=some u):plain u=true:=by
 unfold Jy at h
 split at h<;>first | (cases h;rfl) | (split at h<;>first | (cases h;rfl) | (cases h;done)) | (cases h;done)
omit [Lim] in
theorem abE {op:BinOp} {x y:ByteArray} {u:Value} (h:Md op x y=some u):plain u=true:=by
 unfold Md at h
 split at h<;>first | (cases h;rfl) | (split at h<;>first | (cases h;rfl) | (cases h;done)) | (cases h;done)
omit [Lim] in
theorem agh {op:BinOp} {k:IntKind} {x y:Int} {u:Value} {t:TypeId} (h:Jy op k x y=some u):(binOp op t (.int k x) (.int k y)).run P w= .ok u w:=by
 unfold Jy at h
 split at h
 all_goals first
  | (cases h;simp [binOp,Op.intArith,Op.intBits,Op.intCmp];done)
  | (split at h
     ·cases h
     ·rename_i hne
      cases h
      simp [binOp,Op.intDiv,hne])
  | cases h
omit [Lim] in
theorem agi {op:BinOp} {x y:ByteArray} {u:Value} {t:TypeId} (h:Md op x y=some u):(binOp op t (.string x) (.string y)).run P w= .ok u w:=by
 unfold Md at h
 split at h
 all_goals first
  | (cases h;simp [binOp,Op.stringOp];done)
  | (split at h
     ·cases h
     ·rename_i hne
      cases h
      simp only [binOp,Op.stringOp]
      rw [if_neg hne];rfl)
  | cases h
omit [Lim] in
theorem GM {op:BinOp} {t:TypeId} {x y:Operand} {k:IntKind} {n:Int} {v:Value}:(eqGuard op t x y (.int k n) v).run P w= .ok () w:=by cases op<;>rfl
omit [Lim] in
theorem WQ {op:BinOp} {t:TypeId} {x y:Operand} {s:ByteArray} {v:Value}:(eqGuard op t x y (.string s) v).run P w= .ok () w:=by cases op<;>rfl
omit [Lim] in
theorem KN {op:BinOp} {t:TypeId} {x y:Operand} {b:Bool} {v:Value}:(eqGuard op t x y (.bool b) v).run P w= .ok () w:=by cases op<;>rfl
omit [Lim] in
theorem Ou {op:BinOp} {t:TypeId} {x y:Operand} {p:Option Addr} {v:Value}:(eqGuard op t x y (.pointer p) v).run P w= .ok () w:=by cases op<;>rfl
omit [Lim] in
theorem PT {t:TypeId} {x y:Bool} (ht:P.underlying t=some .bool):(Op.equal t (.bool x) (.bool y)).run P w= .ok (x==y) w:=by
 have:∀d,(Op.equalIn (d+1) t (.bool x) (.bool y)).run P w= .ok (x==y) w:=fun d=>by
  simp only [Op.equalIn,Sem.run_bind,cO ht,Result.andThen_ok,Sem.run_pure]
 exact this 9999
omit [Lim] in
theorem abG {t el:TypeId} {p1 p2:Option Addr} (ht:P.underlying t=some (.pointer el)) (h:(p1.isNone||p2.isNone)=true):(Op.equal t (.pointer p1) (.pointer p2)).run P w= .ok (p1.isNone&&p2.isNone) w:=by
 have:∀d,(Op.equalIn (d+1) t (.pointer p1) (.pointer p2)).run P w= .ok (p1.isNone&&p2.isNone) w:=fun d=>by
  cases p1 with
  | none=>simp only [Op.equalIn,Sem.run_bind,cO ht,Result.andThen_ok,Sem.run_pure,Option.isNone_none,Bool.true_and]
  | some p1=>
   cases p2 with
   | none=>simp only [Op.equalIn,Sem.run_bind,cO ht,Result.andThen_ok,Sem.run_pure,Option.isNone_some,Bool.false_and]
   | some p2=>simp at h
 exact this 9999
omit [Lim] in
theorem UQ {t:TypeId} {x y:Value} {r:Bool} (he:binOp .eql t x y=(do pure (.bool (←Op.equal t x y)):Sem Value)) (h:(Op.equal t x y).run P w= .ok r w):(binOp .eql t x y).run P w= .ok (.bool r) w:=by
 rw [he];simp only [Sem.run_bind,h,Result.andThen_ok,Sem.run_pure]
omit [Lim] in
theorem UR {t:TypeId} {x y:Value} {r:Bool} (he:binOp .neq t x y=(do pure (.bool (!(←Op.equal t x y))):Sem Value)) (h:(Op.equal t x y).run P w= .ok r w):(binOp .neq t x y).run P w= .ok (.bool !r) w:=by
 rw [he];simp only [Sem.run_bind,h,Result.andThen_ok,Sem.run_pure]
theorem abH (h:Rel B st a w W) {op:BinOp} {t:TypeId} {x y:Operand} {u:Value} (hu:binop st (P.underlying t) op (st.get x) (st.get y)=some u):
 plain u=true∧∃vx vy,a.eval x=vx∧a.eval y=vy∧∀w':World,(eqGuard op t x y vx vy).run P w'= .ok () w'∧(binOp op t vx vy).run P w'= .ok u w':=by
 have hx:=h.get x
 have hy:=h.get y
 have main:∀(vx vy:Value),a.eval x=vx→a.eval y=vy→(∀w':World,(eqGuard op t x y vx vy).run P w'= .ok () w')→(∀w':World,(binOp op t vx vy).run P w'= .ok u w')→plain u=true→
  plain u=true∧∃vx vy,a.eval x=vx∧a.eval y=vy∧∀w':World,(eqGuard op t x y vx vy).run P w'= .ok () w'∧(binOp op t vx vy).run P w'= .ok u w':=by
  intro vx vy h1 h2 h3 h5 h6
  exact ⟨h6,vx,vy,h1,h2,fun w'=>⟨h3 w',h5 w'⟩⟩
 unfold binop at hu
 split at hu
 ·rename_i k p k' q hp hq
  rw [hp] at hx
  rw [hq] at hy
  have ex:=(qI (eX hx)).1
  have ey:=(qI (eX hy)).1
  split at hu
  ·split at hu
   ·cases hu
   ·rename_i hneg
    cases hu
    exact main _ _ ex ey (fun _=>GM) (fun _=>(by simp only [binOp,Op.shift];rw [if_neg hneg];rfl)) rfl
  ·split at hu
   ·cases hu
   ·rename_i hneg
    cases hu
    exact main _ _ ex ey (fun _=>GM) (fun _=>(by simp only [binOp,Op.shift];rw [if_neg hneg];rfl)) rfl
  ·split at hu
   ·rename_i hk
    subst hk
    exact main _ _ ex ey (fun _=>GM) (fun _=>(agh hu)) (abD hu)
   ·cases hu
 ·rename_i p q hp hq
  rw [hp] at hx
  rw [hq] at hy
  exact main _ _ (qI (eX hx)).1 (qI (eX hy)).1 (fun _=>WQ) (fun _=>(agi hu)) (abE hu)
 ·rename_i p q hp hq
  rw [hp] at hx
  rw [hq] at hy
  have ex:=(qI (eX hx)).1
  have ey:=(qI (eX hy)).1
  split at hu
  ·rename_i ht
   cases hu
   exact main _ _ ex ey (fun _=>KN) (fun _=>(UQ rfl (PT ht))) rfl
  ·rename_i ht
   cases hu
   exact main _ _ ex ey (fun _=>KN) (fun _=>(UR rfl (PT ht))) rfl
  ·cases hu
 ·rename_i p q _ _ _ hp hq
  rw [hp] at hx
  rw [hq] at hy
  split at hu
  ·rename_i el b1 b2 ht h1 h2
   obtain ⟨p1,e1,e2,_⟩:=Po h h1 (eX hx)
   obtain ⟨p2,e3,e4,_⟩:=Po h h2 (eX hy)
   have hrun:∀{w:World} (hor:(b1||b2)=true),(Op.equal t (.pointer p1) (.pointer p2)).run P w= .ok (b1&&b2) w:=by
    intro w hor
    rw [←e2,←e4] at hor ⊢
    exact abG ht hor
   split at hu
   ·have hor:(b1||b2)=true:=by assumption
    cases hu
    exact main _ _ e1 e3 (fun _=>Ou) (fun _=>(UQ rfl (hrun hor))) rfl
   ·have hor:(b1||b2)=true:=by assumption
    cases hu
    exact main _ _ e1 e3 (fun _=>Ou) (fun _=>(UR rfl (hrun hor))) rfl
   ·cases hu
  ·cases hu
 ·cases hu
theorem PU {L:Nat→Option Obj}:∀{rs:List RV} {us vs:List Value},PD rs=some us→RRs w W L rs vs→vs=us
 | [],us,vs,e,h=>by cases h;cases e;rfl
 | r::rs,us,vs,e,h=>by
  cases h with
  | cons h1 h2=>
   unfold PD at e
   split at e
   ·cases ‹_=[] ›
   ·rename_i t v r' e1
    cases e1
    obtain ⟨us',e2,rfl⟩:=Option.map_eq_some_iff.1 e
    rw [PU e2 h2,(qI h1).1]
   ·cases e
def Fm (P:Program) (t:TypeId) (a:Value) (cs:List Value):Prop:=(fJ P t=true∧∃arr,a= .agg arr∧arr.toList=cs)∨(fJ P t=false∧cs=[a])
omit [Lim] in
theorem Pq {P:Program} {d:Nat} {e:TypeId} {off:Nat} {xs:Array Value} {zs:List Value} {l:List Bool} (w:World)
 (h:Jz P d e ((xs.toList.drop off).take (P.cellsOf e)) zs=some l∨Jz P d e zs ((xs.toList.drop off).take (P.cellsOf e))=some l):
 ∃a,(part e xs off).run P w= .ok a w∧Fm P e a ((xs.toList.drop off).take (P.cellsOf e)):=by
 cases d with
 | zero=>rcases h with h | h<;>cases h
 | succ d=>
  have hu:∃kd,P.underlying e=some kd:=by
   cases hu:P.underlying e with
   | none=>rcases h with h | h<;>simp [Jz,hu] at h
   | some kd=>exact ⟨kd,rfl⟩
  obtain ⟨kd,hu⟩:=hu
  obtain ⟨i,hi⟩:=info_of_underlying hu
  have agg:(∃n e',kd= .array n e')∨(∃fs,kd= .struct fs)→∃a,(part e xs off).run P w= .ok a w∧Fm P e a ((xs.toList.drop off).take (P.cellsOf e)):=by
   intro hk
   have hl:(xs.extract off (off+P.cellsOf e)).toList=(xs.toList.drop off).take (P.cellsOf e):=by
    rw [Array.toList_extract]
    simp [List.extract]
   refine ⟨.agg (xs.extract off (off+P.cellsOf e)),?_,.inl ⟨?_,_,rfl,hl⟩⟩
   ·rcases hk with ⟨n,e',rfl⟩ | ⟨fs,rfl⟩<;>simp [part,isAgg,run_underlying hu,run_sizeOf w hi]
   ·rcases hk with ⟨n,e',rfl⟩ | ⟨fs,rfl⟩<;>simp [fJ,hu]
  have one:∀a,(xs.toList.drop off).take (P.cellsOf e)=[a]→kd= .bool∨(∃k,kd= .int k)∨kd= .string→∃a,(part e xs off).run P w= .ok a w∧Fm P e a ((xs.toList.drop off).take (P.cellsOf e)):=by
   intro a ha hk
   have hg:xs[off]?=some a:=by
    have:((xs.toList.drop off).take (P.cellsOf e))[0]?=some a:=by rw [ha];rfl
    rw [List.getElem?_take] at this
    split at this
    ·rw [List.getElem?_drop] at this
     simpa using this
    ·cases this
   refine ⟨a,?_,.inr ⟨?_,ha⟩⟩
   ·rcases hk with rfl | ⟨k,rfl⟩ | rfl<;>simp [part,isAgg,run_underlying hu,hg]
   ·rcases hk with rfl | ⟨k,rfl⟩ | rfl<;>simp [fJ,hu]
  cases kd
  case array n e'=>exact agg (.inl ⟨n,e',rfl⟩)
  case struct fs=>exact agg (.inr ⟨fs,rfl⟩)
  case bool=>
   rcases h with h | h<;>(unfold Jz at h;rw [hu] at h;split at h<;>first | exact one _ ‹_› (.inl rfl) | (cases h;done) | skip)
   all_goals simp_all
  case int k=>
   rcases h with h | h<;>(unfold Jz at h;rw [hu] at h;split at h<;>first | exact one _ ‹_› (.inr (.inl ⟨k,rfl⟩)) | (cases h;done) | skip)
   all_goals simp_all
  case string=>
   rcases h with h | h<;>(unfold Jz at h;rw [hu] at h;split at h<;>first | exact one _ ‹_› (.inr (.inr rfl)) | (cases h;done) | skip)
   all_goals simp_all
  all_goals (rcases h with h | h<;>simp [Jz,hu] at h)
omit [Lim] in
theorem PV {P:Program}:∀(d D:Nat) (t:TypeId) (a b:Value) (xs ys:List Value) (l:List Bool) (w:World),Fm P t a xs→Fm P t b ys→Jz P d t xs ys=some l→(Op.equalIn (D+d) t a b).run P w= .ok (l.all id) w
 | 0,D,t,a,b,xs,ys,l,w,_,_,h=>by cases h
 | d+1,D,t,a,b,xs,ys,l,w,fa,fb,h=>by
  unfold Jz at h
  split at h
  ·rename_i p q hu
   have ha:fJ P t=false:=by simp [fJ,hu]
   cases h
   rcases fa with ⟨e,_⟩ | ⟨_,e1⟩
   ·rw [ha] at e;cases e
   rcases fb with ⟨e,_⟩ | ⟨_,e2⟩
   ·rw [ha] at e;cases e
   cases e1;cases e2
   rw [show D+(d+1)=(D+d)+1 from rfl,run_equalIn_bool' w (D+d) t p q hu]
   simp
  ·rename_i k0 k p k' q hu
   have ha:fJ P t=false:=by simp [fJ,hu]
   split at h
   ·rename_i hk
    subst hk
    cases h
    rcases fa with ⟨e,_⟩ | ⟨_,e1⟩
    ·rw [ha] at e;cases e
    rcases fb with ⟨e,_⟩ | ⟨_,e2⟩
    ·rw [ha] at e;cases e
    cases e1;cases e2
    rw [show D+(d+1)=(D+d)+1 from rfl,run_equalIn_int w (D+d) t k k0 p q hu]
    simp
   ·cases h
  ·rename_i p q hu
   have ha:fJ P t=false:=by simp [fJ,hu]
   cases h
   rcases fa with ⟨e,_⟩ | ⟨_,e1⟩
   ·rw [ha] at e;cases e
   rcases fb with ⟨e,_⟩ | ⟨_,e2⟩
   ·rw [ha] at e;cases e
   cases e1;cases e2
   rw [show D+(d+1)=(D+d)+1 from rfl,run_equalIn_string w (D+d) t p q hu]
   simp
  ·rename_i n e hu
   have ha:fJ P t=true:=by simp [fJ,hu]
   split at h
   ·cases h
   rename_i hn0
   obtain ⟨ls,h1,rfl⟩:=Option.map_eq_some_iff.1 h
   rcases fa with ⟨_,xs,rfl,rfl⟩ | ⟨e1,_⟩
   ·rcases fb with ⟨_,ys,rfl,rfl⟩ | ⟨e1,_⟩
    ·have hpe:n=0∨∃i,P.info? e=some i:=by
      cases n with
      | zero=>exact .inl rfl
      | succ n=>
       rw [List.range_succ_eq_map,List.mapM_cons] at h1
       simp only [bind,Option.bind_eq_some_iff] at h1
       obtain ⟨l0,h0,_⟩:=h1
       cases d with
       | zero=>cases h0
       | succ d=>
        cases hue:P.underlying e with
        | none=>simp [Jz,hue] at h0
        | some kd=>exact .inr (info_of_underlying hue)
     have items:∀(is:List Nat) (ls:List (List Bool)),is.mapM (fun i=>Jz P d e ((xs.toList.drop (i*P.cellsOf e)).take (P.cellsOf e)) ((ys.toList.drop (i*P.cellsOf e)).take (P.cellsOf e)))=some ls→
      (Op.eqItems (D+d) e (P.cellsOf e) xs ys is).run P w= .ok (ls.flatten.all id) w:=by
      intro is
      induction is with
      | nil=>intro ls h;cases h;simp [Op.eqItems]
      | cons i is ih=>
       intro ls h
       rw [List.mapM_cons] at h
       simp only [bind,Option.bind_eq_some_iff,pure,Option.some.injEq] at h
       obtain ⟨l0,h0,ls',h2,rfl⟩:=h
       obtain ⟨pa,p1,p2⟩:=Pq w (.inl h0)
       obtain ⟨pb,q1,q2⟩:=Pq w (.inr h0)
       have r:=PV d D e pa pb _ _ l0 w p2 q2 h0
       simp only [Op.eqItems,Sem.run_bind,p1,q1,r,Result.andThen_ok,List.flatten_cons,List.all_append]
       cases l0.all id
       ·simp
       ·simpa using ih ls' h2
     rcases hpe with rfl | ⟨i,hi⟩
     ·exact absurd rfl hn0
     ·rw [show D+(d+1)=(D+d)+1 from rfl,run_equalIn_array w (D+d) xs ys hu hi];exact items _ _ h1
    ·rw [ha] at e1;cases e1
   ·rw [ha] at e1;cases e1
  ·rename_i fs hu
   have ha:fJ P t=true:=by simp [fJ,hu]
   split at h
   ·cases h
   rename_i hg
   simp only [Bool.or_eq_true,not_or,Bool.not_eq_true] at hg
   obtain ⟨ls,h1,rfl⟩:=Option.map_eq_some_iff.1 h
   have hfs:P.fieldsOf t=fs:=by simp [Program.fieldsOf,hu]
   rcases fa with ⟨_,xs,rfl,rfl⟩ | ⟨e1,_⟩
   ·rcases fb with ⟨_,ys,rfl,rfl⟩ | ⟨e1,_⟩
    ·have hn:∀f∈fs.toList,f.name≠"_":=by
      intro f hf e
      have:=Array.any_eq_false'.1 hg.2 f (by simpa using hf)
      simp [e] at this
     have anK:∀(gs:List Field) (ls:List (List Bool)),(∀f∈gs,f.name≠"_")→gs.mapM (fun f=>Jz P d f.type ((xs.toList.drop f.offset).take (P.cellsOf f.type)) ((ys.toList.drop f.offset).take (P.cellsOf f.type)))=some ls→
      (Op.eqFields (D+d) xs ys gs).run P w= .ok (ls.flatten.all id) w:=by
      intro gs
      induction gs with
      | nil=>intro ls _ h;cases h;simp [Op.eqFields]
      | cons f gs ih=>
       intro ls hn h
       rw [List.mapM_cons] at h
       simp only [bind,Option.bind_eq_some_iff,pure,Option.some.injEq] at h
       obtain ⟨l0,h0,ls',h2,rfl⟩:=h
       obtain ⟨pa,p1,p2⟩:=Pq w (.inl h0)
       obtain ⟨pb,q1,q2⟩:=Pq w (.inr h0)
       have r:=PV d D f.type pa pb _ _ l0 w p2 q2 h0
       simp only [Op.eqFields,hn f (by simp),ne_eq,not_false_eq_true,if_true,Sem.run_bind,p1,q1,r,Result.andThen_ok,List.flatten_cons,List.all_append]
       cases l0.all id
       ·simp
       ·simpa using ih ls' (fun f hf=>hn f (by simp [hf])) h2
     rw [show D+(d+1)=(D+d)+1 from rfl,run_equalIn_struct w (D+d) t xs ys (by rw [hfs];exact hu) hg.1,hfs]
     exact anK _ _ hn h1
    ·rw [ha] at e1;cases e1
   ·rw [ha] at e1;cases e1
  ·cases h
omit [Lim] in
theorem WR:∀l:List Bool,Yh l=l.all id
 | []=>rfl
 | [a]=>by simp [Yh]
 | a::b::r=>by
  have:=WR (b::r)
  simp only [Yh,this,List.all_cons,id]
theorem Yp (h:Rel B st a w W) {op:BinOp} {t:TypeId} {x y:Operand} {u:Value} (hu:AL P st t op (st.get x) (st.get y)=some u):
 plain u=true∧∃vx vy,a.eval x=vx∧a.eval y=vy∧∀w':World,(eqGuard op t x y vx vy).run P w'= .ok () w'∧(binOp op t vx vy).run P w'= .ok u w':=by
 unfold AL at hu
 split at hu
 ·rename_i xs ys hx0 hy0
  have hx:=h.get x
  have hy:=h.get y
  rw [hx0] at hx
  rw [hy0] at hy
  obtain ⟨us,h1,hu⟩:=Option.bind_eq_some_iff.1 hu
  obtain ⟨vs,h2,hu⟩:=Option.bind_eq_some_iff.1 hu
  rcases hx with ⟨_,ax,ex,rx⟩ | ⟨e,_⟩
  ·rcases hy with ⟨_,ay,ey,ry⟩ | ⟨e,_⟩
   ·have qx:=PU h1 rx
    have qy:=PU h2 ry
    unfold PE at hu
    split at hu
    ·rename_i hc
     simp only [Bool.and_eq_true,Bool.not_eq_true'] at hc
     obtain ⟨l,h3,hu⟩:=Option.bind_eq_some_iff.1 hu
     have run:∀w',(Op.equal t (.agg ax) (.agg ay)).run P w'= .ok (Yh l) w':=fun w'=>by
      rw [WR]
      exact PV 24 9976 t (.agg ax) (.agg ay) us vs l w' (.inl ⟨hc.1,ax,rfl,qx⟩) (.inl ⟨hc.1,ay,rfl,qy⟩) h3
     split at hu
     ·cases hu
      exact ⟨rfl,_,_,ex,ey,fun w'=>⟨run_eqGuard_agg w' _ _ _ _ _ _ hc.2,UQ rfl (run w')⟩⟩
     ·cases hu
      exact ⟨rfl,_,_,ex,ey,fun w'=>⟨run_eqGuard_agg w' _ _ _ _ _ _ hc.2,UR rfl (run w')⟩⟩
     ·cases hu
    ·cases hu
   ·cases e
  ·cases e
 ·exact abH h hu
theorem adl (h:Rel B st a w W) (hn:nt=B.nt) {op:BinOp} {t t2:TypeId} {x y:Operand} (ho:o.op= .binOp op t x y t2) (e:aH P cfg aY nt o st=some st'):Good P B o st' a w:=by
 simp only [aH,ho] at e
 obtain ⟨u,hu,e⟩:=Option.bind_eq_some_iff.1 e
 obtain ⟨h6,vx,vy,h1,h2,h3⟩:=Yp h hu
 refine gQ h hn (u:=u) ?_ (Jr h6) e
 simp [execOp,ho,h1,h2,(h3 w).1,(h3 w).2]
theorem RRs.take {L:Nat→Option Obj} {rs:List RV} {vs:List Value} (h:RRs w W L rs vs) (n:Nat):RRs w W L (rs.take n) (vs.take n):=by
 induction h generalizing n with
 | nil=>simpa using RRs.nil
 | cons h _ ih=>
  cases n with
  | zero=>simpa using RRs.nil
  | succ n=>simpa using RRs.cons h (ih n)
theorem RRs.drop {L:Nat→Option Obj} {rs:List RV} {vs:List Value} (h:RRs w W L rs vs) (n:Nat):RRs w W L (rs.drop n) (vs.drop n):=by
 induction h generalizing n with
 | nil=>simpa using RRs.nil
 | cons h h2 ih=>
  cases n with
  | zero=>simpa using RRs.cons h h2
  | succ n=>simpa using ih n
theorem RRs.append {L:Nat→Option Obj} {rs rs':List RV} {vs vs':List Value} (h:RRs w W L rs vs) (h':RRs w W L rs' vs'):RRs w W L (rs++rs') (vs++vs'):=by
 induction h with
 | nil=>exact h'
 | cons h _ ih=>exact .cons h ih
theorem RRs.splice {L:Nat→Option Obj} {rs rs':List RV} {vs vs':List Value} (h:RRs w W L rs vs) (h':RRs w W L rs' vs') (off:Nat):RRs w W L (splice rs off rs') (splice vs off vs'):=by
 unfold Sim.splice
 rw [←h'.length]
 exact (h.take off).append (h'.append (h.drop _))
theorem RRs.map {L:Nat→Option Obj} {α:Type} {f:α→Option RV} {g:α→Value}:∀{l:List α} {rs:List RV},l.mapM f=some rs→(∀x r,f x=some r→RR w W L r (g x))→RRs w W L rs (l.map g)
 | [],rs,h,_=>by simp at h;subst h;exact .nil
 | x::l,rs,h,hf=>by
  simp only [List.mapM_cons,Option.bind_eq_bind] at h
  obtain ⟨r,hr,h⟩:=Option.bind_eq_some_iff.1 h
  obtain ⟨rs',hrs,h⟩:=Option.bind_eq_some_iff.1 h
  cases h
  exact .cons (hf x r hr) (RRs.map hrs hf)
theorem Yq (h:Rel B st a w W) (hn:nt=B.nt) {s t:TypeId} {x:Operand} (ho:o.op= .convert s t x) (e:aH P cfg aY nt o st=some st'):Good P B o st' a w:=by
 simp only [aH,ho] at e
 have hx:=h.get x
 split at e
 ·rename_i d k t0 k0 n hs ht hv
  rw [hv] at hx
  have hxv:=(qI (eX hx)).1
  refine gQ h hn (u:= .int k (k.wrap n)) ?_ (Jr rfl) e
  simp [execOp,ho,hxv,convert,cO hs,cO ht,Conv.intToInt]
 ·rename_i t0 b hs ht hv
  rw [hv] at hx
  have hxv:=(qI (eX hx)).1
  refine gQ h hn (u:= .string b) ?_ (Jr rfl) e
  simp [execOp,ho,hxv,convert,cO hs,cO ht]
 ·rename_i el r hs ht hv
  rw [hv] at hx
  split at e
  ·rename_i hel
   obtain ⟨⟨t1,es⟩,he,e⟩:=Option.bind_eq_some_iff.1 e
   obtain ⟨l,hl,e⟩:=Option.bind_eq_some_iff.1 e
   obtain ⟨us,hc,hs1,hlen,hfirst⟩:=WM (P:=P) h (eX hx) he
   have hbytes:∀(es:List AV) (us:List Value) (l:List UInt8) (s:ByteArray),CRi w (W.F (tg t1)) (es.flatMap AV.cells) us→bytesOf es=some l→
    (forIn us s (fun (c:Value) (s:ByteArray)=>match c with
      | .int .u8 n=>(pure (ForInStep.yield (s.push (UInt8.ofNat n.toNat))):Sem (ForInStep ByteArray))
      | _=>(fun (_:PUnit)=>ForInStep.yield s) <$>stuck "bytesToString: byte expected")).run P w= .ok ⟨s.data++l.toArray⟩ w:=by
    intro es
    induction es with
    | nil=>intro us l s hc hl;cases hc;cases hl;simp
    | cons x es ih=>
     intro us l s hc hl
     unfold bytesOf at hl
     split at hl
     ·rename_i he;cases he
     ·rename_i n r he
      cases he
      obtain ⟨l',hl',hll⟩:=Option.map_eq_some_iff.1 hl
      subst hll
      cases hc with
      | sc hp hc=>
       simp only [List.forIn_cons,Sem.run_bind,Sem.run_pure,Result.andThen_ok]
       rw [ih _ _ _ hc hl']
       simp [ByteArray.push]
     ·cases hl
   have hstr:∀(bs:List UInt8) (es:List AV) (l:List UInt8),CRi w (W.F (tg t1)) (es.flatMap AV.cells) (bs.map fun b=>Value.int .u8 b.toNat)→bytesOf es=some l→l=bs:=by
    intro bs
    induction bs with
    | nil=>
     intro es l hc hl
     cases es with
     | nil=>cases hl;rfl
     | cons x es=>
      unfold bytesOf at hl
      split at hl
      ·rename_i he;cases he
      ·rename_i n r he
       cases he
       cases hc
      ·cases hl
    | cons b bs ih=>
     intro es l hc hl
     cases es with
     | nil=>cases hc
     | cons x es=>
      unfold bytesOf at hl
      split at hl
      ·rename_i he;cases he
      ·rename_i n r he
       cases he
       obtain ⟨l',hl',hll⟩:=Option.map_eq_some_iff.1 hl
       subst hll
       cases hc with
       | sc hp hc=>
        rw [ih _ _ hc hl']
        simp
      ·cases hl
   refine gQ h hn (u:= .string ⟨l.toArray⟩) ?_ (Jr rfl) e
   have hf:=hfirst w (fun _ _ h=>h)
   have hrun:(convert s t (a.eval x)).run P w= .ok (.string ⟨l.toArray⟩) w:=by
    cases hxv:a.eval x with
    | string s=>
     rw [hxv] at hf hlen
     simp [Builtin.lenOf] at hlen
     simp only [Builtin.firstCells,←hlen] at hf
     have hu:us=s.data.toList.map fun b=>Value.int .u8 b.toNat:=by
      have:=congrArg (fun r:Result (Array Value)=>match r with | .ok v _=>v.toList | _=>[]) hf
      simpa using this.symm
     rw [hu] at hc
     have:=hstr _ _ _ hc hl
     subst this
     simp [convert,cO hs,cO ht]
    | slice a0 n cap=>
     rw [hxv] at hf hlen
     simp [Builtin.lenOf] at hlen
     have hb:=hbytes es us l ByteArray.empty hc hl
     cases a0 with
     | none=>
      simp only [Builtin.firstCells] at hf
      have hu:us=[]:=by
       have:=congrArg (fun r:Result (Array Value)=>match r with | .ok v _=>v.toList | _=>[]) hf
       simpa using this.symm
      subst hu
      have:l=[]:=by
       cases es with
       | nil=>cases hl;rfl
       | cons x es=>
        unfold bytesOf at hl
        split at hl
        ·rename_i he;cases he
        ·rename_i n r he
         cases he
         cases hc
        ·cases hl
      subst this
      simp [convert,cO hs,cO ht,cO hel,Conv.bytesToString]
      rfl
     | some ad=>
      simp only [Builtin.firstCells,Nat.mul_one,←hlen] at hf
      simp [convert,cO hs,cO ht,cO hel,Conv.bytesToString,hf]
      have hemp:(⟨ByteArray.empty.data++l.toArray⟩:ByteArray)=⟨l.toArray⟩:=by
       have:ByteArray.empty.data=#[]:=rfl
       rw [this];simp
      rw [hemp] at hb
      exact congrArg (fun r:Result ByteArray=>r.andThen fun a w'=> .ok (Value.string a) w') hb
    | _=>rw [hxv] at hlen;cases hlen
   simp [execOp,ho,hrun]
  ·cases e
 ·cases e
theorem Yr (h:Rel B st a w W) (hn:nt=B.nt) {x:Operand} {i:Nat} (ho:o.op= .extract x i) (e:aH P cfg aY nt o st=some st'):Good P B o st' a w:=by
 simp only [aH,ho] at e
 have hx:=h.get x
 split at e
 ·rename_i vs hv
  rw [hv] at hx
  obtain ⟨us,hu,hc⟩:=hx
  obtain ⟨⟨ag,cs⟩,hi,e⟩:=Option.bind_eq_some_iff.1 e
  have get:∀{xs:List (Bool×List RV)} {us:List Value} {i:Nat} {y:Bool×List RV},sV w W st.L xs us→xs[i]?=some y→∃u,us[i]?=some u∧Dy w W st.L y u:=by
   intro xs us i y hc
   induction hc generalizing i with
   | nil=>intro h;simp at h
   | cons h1 _ ih=>
    intro h
    cases i with
    | zero=>simp at h;subst h;exact ⟨_,rfl,h1⟩
    | succ i=>simpa using ih (by simpa using h)
  obtain ⟨u,hu2,hcr⟩:=get hc hi
  refine gQ h hn (u:=u) ?_ (show SR w W st.L (.v ag cs) u from hcr) e
  have:us[i]?=some u:=by simpa using hu2
  simp [execOp,ho,hu,Instr.extract,this]
 ·cases e
theorem WS (h:Rel B st a w W) (hn:nt=B.nt) {f:FuncId} {first caps:Array Operand} (ho:o.op= .makeFunc (.func f) first caps) (e:aH P cfg aY nt o st=some st'):Good P B o st' a w:=by
 simp only [aH,ho] at e
 split at e
 ·rename_i hf
  have hf:=beq_eq hf
  obtain ⟨rs,hr,e⟩:=Option.bind_eq_some_iff.1 e
  have:first=#[]:=Array.eq_empty_of_size_eq_zero hf
  subst this
  have hrs:RRs w W st.L rs (caps.map a.eval).toList:=by
   have:=RRs.map (w:=w) (W:=W) (L:=st.L) (g:=a.eval) hr fun x r hx=>GL hx (h.get x)
   simpa using this
  refine gQ h hn (u:= .func (.func f) #[] (caps.map a.eval)) ?_ (show SR w W st.L (.fn f rs) _ from ⟨_,rfl,hrs⟩) e
  simp [execOp,ho,Instr.makeFunc]
 ·cases e
omit [Lim] in
theorem GN {c:Call} {b:Builtin} (hc:c.callee= .builtin b) (ho:o.op= .call c) {s:Array TypeId→TypeId→Array Value→Sem Value} (hb:∀at' t cs args,builtin b at' t cs args=(do pure (.value (←s at' t args)):Sem Next))
 {u:Value} {w':World} (hr:(s c.argTypes o.type (c.args.map a.eval)).run P w= .ok u w'):(execOp a.eval o).run P w= .ok (.value u) w':=by
 unfold execOp
 rw [ho]
 simp only [resolve,hc,Sem.run_bind,Sem.run_pure,Result.andThen_ok,invoke,hb,hr]
theorem ajc (h:Rel B st a w W) (hn:nt=B.nt) {c:Call} (hc:c.callee= .builtin .len) (ho:o.op= .call c) (e:aH P cfg aY nt o st=some st'):Good P B o st' a w:=by
 simp only [aH,ho,hc] at e
 split at e
 ·rename_i t0 s hs
  split at e
  ·rename_i ht
   obtain ⟨t,htt,ht⟩:=Option.bind_eq_some_iff.1 ht
   obtain ⟨x,hx⟩:∃x,c.args=#[x]:=by
    have:=congrArg List.length hs
    simp at this
    obtain ⟨x,hx⟩:=Array.size_eq_one_iff.1 this
    exact ⟨x,hx⟩
   rw [hx] at hs
   simp at hs
   have hv:=h.get x
   rw [hs] at hv
   have hxv:=(qI (eX hv)).1
   refine gQ h hn (u:= .int .i64 s.size) (GN hc ho (s:=Builtin.len_) (fun _ _ _ _=>rfl) ?_) (Jr rfl) e
   rw [hx]
   simp [Builtin.len_,htt,hxv,cO ht,goInt]
  ·cases e
 ·rename_i r hne hs
  split at e
  ·rename_i el ht
   obtain ⟨t,htt,ht⟩:=Option.bind_eq_some_iff.1 ht
   obtain ⟨n,hl,e⟩:=Option.bind_eq_some_iff.1 e
   obtain ⟨x,hx⟩:∃x,c.args=#[x]:=by
    have:=congrArg List.length hs
    simp at this
    obtain ⟨x,hx⟩:=Array.size_eq_one_iff.1 this
    exact ⟨x,hx⟩
   rw [hx] at hs
   simp at hs
   have hv:=h.get x
   rw [hs] at hv
   obtain ⟨a0,cap,hxv,_⟩:=MI h hl (eX hv)
   refine gQ h hn (u:= .int .i64 n) (GN hc ho (s:=Builtin.len_) (fun _ _ _ _=>rfl) ?_) (Jr rfl) e
   rw [hx]
   simp [Builtin.len_,htt,hxv,cO ht,goInt]
  ·cases e
 ·cases e
theorem WT {f:Int→Int→Int} {g:Value→Value→Sem Value} (hg:∀k x k' y,g (.int k x) (.int k' y)=pure (.int k (f x y))):∀(xs:List SV) (vs:List Value) (k:IntKind) (n:Int) {u:Value},
 xs.length=vs.length→(∀(i:Nat) x v,xs[i]?=some x→vs[i]?=some v→SR w W st.L x v)→KF f k n xs=some u→(vs.foldlM g (.int k n)).run P w= .ok u w∧plain u=true
 | [],[],k,n,u,_,_,h=>by simp [KF] at h;subst h;exact ⟨rfl,rfl⟩
 | [],_::_,k,n,u,hl,_,_=>by simp at hl
 | _::_,[],k,n,u,hl,_,_=>by simp at hl
 | x::xs,v::vs,k,n,u,hl,hr,h=>by
  have h0:=hr 0 x v rfl rfl
  unfold KF at h
  split at h
  ·rename_i e;cases e
  ·rename_i t k' b r e
   injection e with e1 e2
   subst e1 e2
   have hv:=(qI (eX h0)).1
   subst hv
   have ih:=WT hg xs vs k (f n b) (by simpa using hl) (fun i y u hy hu=>hr (i+1) y u (by simpa using hy) (by simpa using hu)) h
   refine ⟨?_,ih.2⟩
   simp only [List.foldlM_cons,Sem.run_bind,hg,Sem.run_pure,Result.andThen_ok]
   exact ih.1
  ·cases h
theorem ZN (h:Rel B st a w W) (hn:nt=B.nt) {f:Int→Int→Int} {g:Value→Value→Sem Value} (hg:∀k x k' y,g (.int k x) (.int k' y)=pure (.int k (f x y))) {c:Call} {b:Builtin} (hc:c.callee= .builtin b) (ho:o.op= .call c)
 (hb:∀at' t cs (args:Array Value) y r,args.toList=y::r→builtin b at' t cs args=(do pure (.value (←r.foldlM g y)):Sem Next))
 {u:Value} (e1:Ee f (c.args.toList.map st.get)=some u) (e:abC nt o.dst st (.im 0 (.sc u))=some st'):Good P B o st' a w:=by
 unfold Ee at e1
 split at e1
 ·rename_i t k x r hs
  obtain ⟨y,ys,hy,hys⟩:∃y ys,c.args.toList=y::ys∧ys.map st.get=r∧st.get y= .v false [.im t (.sc (.int k x))]:=by
   cases hl:c.args.toList with
   | nil=>rw [hl] at hs;simp at hs
   | cons y ys=>rw [hl] at hs;simp at hs;exact ⟨y,ys,rfl,hs.2,hs.1⟩
  obtain ⟨hys,hy1⟩:=hys
  have hv:=h.get y
  rw [hy1] at hv
  have hyv:=(qI (eX hv)).1
  have hf:=WT (P:=P) (w:=w) (W:=W) (st:=st) hg r (ys.map a.eval) k x (by rw [←hys];simp) (fun i z u hz hu=>by
   rw [←hys] at hz
   simp only [List.getElem?_map] at hz hu
   cases hi:ys[i]? with
   | none=>simp [hi] at hz
   | some q=>simp [hi] at hz hu;subst hz hu;exact h.get q) e1
  refine gQ h hn (u:=u) ?_ (Jr hf.2) e
  have hargs:(c.args.map a.eval).toList= .int k x::ys.map a.eval:=by
   rw [Array.toList_map,hy,List.map_cons,hyv]
  unfold execOp
  rw [ho]
  simp only [resolve,hc,Sem.run_bind,Sem.run_pure,Result.andThen_ok,invoke]
  rw [hb _ _ _ _ _ _ hargs]
  simp only [Sem.run_bind,hf.1,Result.andThen_ok,Sem.run_pure]
 ·cases e1
theorem ajd (h:Rel B st a w W) (hn:nt=B.nt) {c:Call} (hc:c.callee= .builtin .min) (ho:o.op= .call c) (e:aH P cfg aY nt o st=some st'):Good P B o st' a w:=by
 simp only [aH,ho,hc] at e
 obtain ⟨u,hu,e⟩:=Option.bind_eq_some_iff.1 e
 refine ZN h hn (f:=min2) (g:=Builtin.min2) (fun k x k' y=>rfl) hc ho (fun at' t cs args y r hl=>?_) hu e
 simp only [builtin,Builtin.min_,hl]
theorem aje (h:Rel B st a w W) (hn:nt=B.nt) {c:Call} (hc:c.callee= .builtin .max) (ho:o.op= .call c) (e:aH P cfg aY nt o st=some st'):Good P B o st' a w:=by
 simp only [aH,ho,hc] at e
 obtain ⟨u,hu,e⟩:=Option.bind_eq_some_iff.1 e
 refine ZN h hn (f:=max2) (g:=Builtin.max2) (fun k x k' y=>rfl) hc ho (fun at' t cs args y r hl=>?_) hu e
 simp only [builtin,Builtin.max_,hl]
end
end
end Go.Sim
