/- Operations that only read may be taken first. Conditions: none. -/
import Derived.Test.YtambonpepalofaaSimOa
namespace Go.Sim
set_option linter.unusedSimpArgs false
set_option linter.unusedVariables false
section
variable {st s:St}
def Agree (st s:St) (r:RV):Prop:=∀b,r.obj? =some b→s.L b=st.L b
theorem ag_cell {o k c:Nat} (h:s.L o=st.L o):s.cell o k c=st.cell o k c:=by simp only [St.cell,h]
theorem ag_obj {o k:Nat} (h:s.L o=st.L o):s.obj o k=st.obj o k:=by simp only [St.obj,h]
theorem ag_load {ag:Bool} {n:Nat} {r:RV} (h:Agree st s r):s.load ag n r=st.load ag n r:=by
 cases r with
 | mp o k off=>simp only [St.load,ag_obj (h o rfl)]
 | mpe o k c i off=>simp only [St.load,ag_cell (h o rfl)]
 | im t a=>cases a<;>rfl
 | _=>rfl
theorem ag_ptr {r:RV} (h:Agree st s r):s.ptr? r=st.ptr? r:=by
 cases r with
 | mp o k off=>simp only [St.ptr?,ag_obj (h o rfl)]
 | mpe o k c i off=>simp only [St.ptr?,ag_cell (h o rfl)]
 | im t a=>
  cases a with
  | sc v=>
   cases v with
   | pointer p=>cases p<;>rfl
   | _=>rfl
  | _=>rfl
 | _=>rfl
theorem ag_len {r:RV} (h:Agree st s r):s.len r=st.len r:=by
 cases r with
 | own o k c=>simp only [St.len,ag_cell (h o rfl)]
 | sub o k c lo hi=>simp only [St.len,ag_cell (h o rfl)]
 | im t a=>cases a<;>rfl
 | _=>rfl
theorem ag_shift {n:Nat} {r:RV} (h:Agree st s r):s.shift n r=st.shift n r:=by simp only [St.shift,ag_ptr h]
theorem ag_elemAddr {sz i:Nat} {r:RV} (h:Agree st s r):s.elemAddr sz r i=st.elemAddr sz r i:=by
 cases r with
 | own o k c=>simp only [St.elemAddr,ag_cell (h o rfl)]
 | sub o k c lo hi=>simp only [St.elemAddr,ag_cell (h o rfl)]
 | im t a=>cases a<;>rfl
 | _=>rfl
theorem ag_binop {ty:Option TypeDesc} {op:BinOp} {x y:SV} (hx:∀r,x= .v false [r]→Agree st s r) (hy:∀r,y= .v false [r]→Agree st s r):binop s ty op x y=binop st ty op x y:=by
 unfold binop
 split
 ·rfl
 ·rfl
 ·rfl
 ·rw [ag_ptr (hx _ rfl),ag_ptr (hy _ rfl)]
 ·rfl
theorem ag_binopT {P:Program} {t:TypeId} {op:BinOp} {x y:SV} (hx:∀r,x= .v false [r]→Agree st s r) (hy:∀r,y= .v false [r]→Agree st s r):binopT P s t op x y=binopT P st t op x y:=by
 unfold binopT
 split
 ·rfl
 ·exact ag_binop hx hy
theorem one_objs {x:SV} {r:RV} (h:x.one? =some r):x= .v false [r]:=by
 unfold SV.one? at h
 split at h
 ·cases h;rfl
 ·cases h
variable {P:Program} {cfg:Cfg} {c:FuncId→List Arg→Option (Res×List Out)} {nt:Nat}
def putR (nt:Nat) (dst:Option Tmp) (v:SV) (s:St):Option St:=match dst with | none=>some s | some d=>if Nat.blt d nt then some (s.setSl d v) else none
theorem read_det {o:Oper} (hk:readKind o.op=true) {st':St} (e:evOp P cfg c nt o st=some st'):
 ∃v,putR nt o.dst v st=some st'∧∀s:St,(∀x∈o.op.operands,s.get x=st.get x)→(∀x∈watch o.op,∀b∈(st.get x).objs,s.L b=st.L b)→evOp P cfg c nt o s=putR nt o.dst v s:=by
 have ag:∀{s:St} {x:Operand},(∀x∈watch o.op,∀b∈(st.get x).objs,s.L b=st.L b)→x∈watch o.op→∀r,st.get x= .v false [r]→Agree st s r:=by
  intro s x h hx r e b hb
  exact h x hx b (by rw [e];simp [SV.objs,hb])
 cases ho:o.op with
 | move x=>
  simp only [evOp,ho] at e
  refine ⟨st.get x,e,fun s h1 h2=>?_⟩
  simp only [evOp,ho,h1 x (by simp [watch,Op.operands])]
  rfl
 | pick a x y=>
  simp only [evOp,ho] at e
  obtain ⟨t,ht,e⟩:=Option.bind_eq_some_iff.1 e
  refine ⟨bif t then st.get x else st.get y,e,fun s h1 h2=>?_⟩
  simp only [evOp,ho,h1 a (by simp [watch,Op.operands]),h1 x (by simp [watch,Op.operands]),h1 y (by simp [watch,Op.operands]),ht,Option.bind_some]
  rfl
 | load t x=>
  rw [ho] at ag
  simp only [evOp,ho] at e
  obtain ⟨ks,hks,e⟩:=Option.bind_eq_some_iff.1 e
  obtain ⟨r,hr,e⟩:=Option.bind_eq_some_iff.1 e
  obtain ⟨v,hv,e⟩:=Option.bind_eq_some_iff.1 e
  refine ⟨v,e,fun s h1 h2=>?_⟩
  simp only [evOp,ho,h1 x (by simp [watch,Op.operands]),hks,hr,Option.bind_some,ag_load (ag h2 (by simp [watch,Op.operands]) r (one_objs hr)),hv]
  rfl
 | nilCheck x=>
  rw [ho] at ag
  simp only [evOp,ho] at e
  split at e
  ·rename_i r hx
   split at e
   ·rename_i hp
    refine ⟨_,e,fun s h1 h2=>?_⟩
    simp only [evOp,ho,h1 x (by simp [watch,Op.operands]),hx,ag_ptr (ag h2 (by simp [watch,Op.operands]) r hx),hp]
    rfl
   ·cases e
  ·rename_i f cs hx
   refine ⟨_,e,fun s h1 h2=>?_⟩
   simp only [evOp,ho,h1 x (by simp [watch,Op.operands]),hx]
   rfl
  ·cases e
 | binOp op t x y t2=>
  rw [ho] at ag
  simp only [evOp,ho] at e
  obtain ⟨v,hv,e⟩:=Option.bind_eq_some_iff.1 e
  refine ⟨_,e,fun s h1 h2=>?_⟩
  simp only [evOp,ho,h1 x (by simp [watch,Op.operands]),h1 y (by simp [watch,Op.operands]),ag_binopT (ag (x:=x) h2 (by simp [watch,Op.operands])) (ag (x:=y) h2 (by simp [watch,Op.operands])),hv,Option.bind_some]
  rfl
 | unOp op t x=>
  simp only [evOp,ho] at e
  obtain ⟨v,hv,e⟩:=Option.bind_eq_some_iff.1 e
  refine ⟨_,e,fun s h1 h2=>?_⟩
  simp only [evOp,ho,h1 x (by simp [watch,Op.operands]),hv,Option.bind_some]
  rfl
 | fieldAddr t x f=>
  rw [ho] at ag
  simp only [evOp,ho] at e
  split at e
  ·rename_i fs hu
   obtain ⟨fd,hfd,e⟩:=Option.bind_eq_some_iff.1 e
   split at e
   ·cases e
   ·rename_i hnz
    obtain ⟨r',hr',e⟩:=Option.bind_eq_some_iff.1 e
    obtain ⟨r,hr,hsh⟩:=Option.bind_eq_some_iff.1 hr'
    refine ⟨_,e,fun s h1 h2=>?_⟩
    simp only [evOp,ho,hu,hfd,Option.bind_some,if_neg hnz,h1 x (by simp [watch,Op.operands]),hr,ag_shift (ag h2 (by simp [watch,Op.operands]) r (one_objs hr)),hsh]
    rfl
  ·cases e
 | indexAddr t x i=>
  rw [ho] at ag
  simp only [evOp,ho] at e
  obtain ⟨p,hp,e⟩:=Option.bind_eq_some_iff.1 e
  obtain ⟨n,hn,e⟩:=Option.bind_eq_some_iff.1 e
  obtain ⟨r,hr,e⟩:=Option.bind_eq_some_iff.1 e
  split at e
  ·rename_i el hu
   obtain ⟨inf,hi,e⟩:=Option.bind_eq_some_iff.1 e
   obtain ⟨r',hr',e⟩:=Option.bind_eq_some_iff.1 e
   refine ⟨_,e,fun s h1 h2=>?_⟩
   simp only [evOp,ho,h1 i (by simp [watch,Op.operands]),h1 x (by simp [watch,Op.operands]),hp,hn,hr,Option.bind_some,hu,hi,ag_elemAddr (ag h2 (by simp [watch,Op.operands]) r (one_objs hr)),hr']
   rfl
  ·rename_i m el hu
   split at e
   ·rename_i hlt
    obtain ⟨inf,hi,e⟩:=Option.bind_eq_some_iff.1 e
    obtain ⟨r',hr',e⟩:=Option.bind_eq_some_iff.1 e
    refine ⟨_,e,fun s h1 h2=>?_⟩
    simp only [evOp,ho,h1 i (by simp [watch,Op.operands]),h1 x (by simp [watch,Op.operands]),hp,hn,hr,Option.bind_some,hu,hlt,if_true,hi,ag_shift (ag h2 (by simp [watch,Op.operands]) r (one_objs hr)),hr']
    rfl
   ·cases e
  ·cases e
 | extract x i=>
  simp only [evOp,ho] at e
  split at e
  ·rename_i vs hx
   obtain ⟨p,hp,e⟩:=Option.bind_eq_some_iff.1 e
   refine ⟨_,e,fun s h1 h2=>?_⟩
   simp only [evOp,ho,h1 x (by simp [watch,Op.operands]),hx,hp,Option.bind_some]
   rfl
  ·cases e
 | field t x f=>
  simp only [evOp,ho] at e
  split at e
  ·rename_i fs cs hu hx
   obtain ⟨fd,hfd,e⟩:=Option.bind_eq_some_iff.1 e
   obtain ⟨u,hu2,e⟩:=Option.bind_eq_some_iff.1 e
   obtain ⟨v,hv,e⟩:=Option.bind_eq_some_iff.1 e
   refine ⟨_,e,fun s h1 h2=>?_⟩
   simp only [evOp,ho,h1 x (by simp [watch,Op.operands]),hu,hx,hfd,Option.bind_some,hu2,hv]
   rfl
  ·cases e
 | index t x i=>
  simp only [evOp,ho] at e
  obtain ⟨p,hp,e⟩:=Option.bind_eq_some_iff.1 e
  obtain ⟨n,hn,e⟩:=Option.bind_eq_some_iff.1 e
  split at e
  ·rename_i hu hx
   obtain ⟨b,hb,e⟩:=Option.bind_eq_some_iff.1 e
   refine ⟨_,e,fun s h1 h2=>?_⟩
   simp only [evOp,ho,h1 i (by simp [watch,Op.operands]),h1 x (by simp [watch,Op.operands]),hp,hn,Option.bind_some,hu,hx,hb]
   rfl
  ·cases e
 | call cl=>
  rw [ho] at hk ag
  cases hc:cl.callee with
  | builtin b=>
   cases b with
   | len=>
    have mem:∀x∈cl.args.toList,x∈(Op.call cl).operands:=fun x hx=>by simp [Op.operands,Call.operands];right;simpa using hx
    have ha:∀s:St,(∀x∈(Op.call cl).operands,s.get x=st.get x)→cl.args.toList.map s.get=cl.args.toList.map st.get:=fun s h=>List.map_congr_left fun x hx=>h x (mem x hx)
    simp only [evOp,ho,hc] at e
    split at e
    ·rename_i hx
     split at e
     ·rename_i hu
      refine ⟨_,e,fun s h1 h2=>?_⟩
      simp only [evOp,ho,hc,ha s h1,hx,hu]
      rfl
     ·cases e
    ·rename_i r hns hx
     split at e
     ·rename_i el hu
      obtain ⟨n,hn,e⟩:=Option.bind_eq_some_iff.1 e
      refine ⟨_,e,fun s h1 h2=>?_⟩
      obtain ⟨y,hy⟩:∃y,cl.args.toList=[y]:=by
       have hl:=congrArg List.length hx
       rw [List.length_map] at hl
       match hcl:cl.args.toList,hl with
       | [y],_=>exact ⟨y,rfl⟩
      have hy2:st.get y= .v false [r]:=by rw [hy] at hx;simpa using hx
      have hag:=ag h2 (show y∈(Op.call cl).operands.toList by simpa using mem y (by rw [hy];simp)) r hy2
      simp only [evOp,ho,hc,ha s h1]
      rw [hx]
      split
      ·rename_i h
       cases h
       exact absurd rfl (hns _ _)
      ·rename_i r' _ h
       cases h
       simp only [hu,ag_len hag,hn,Option.bind_some]
       rfl
      ·rename_i h1 h2
       exact absurd rfl (h2 r)
     ·cases e
    ·cases e
   | _=>simp [readKind,hc] at hk
  | _=>simp [readKind,hc] at hk
 | _=>rw [ho] at hk;cases hk
end
end Go.Sim
