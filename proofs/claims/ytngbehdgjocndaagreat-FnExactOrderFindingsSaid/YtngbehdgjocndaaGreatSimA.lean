/- Values and states of a deterministic machine without addresses: the words for a proof that the given program computes what plain functions compute. Conditions: none; definitions alone. -/
import Derived.Orders
namespace Go.Sim
inductive AV where
 | sc (v:Value)
 | agg (cs:List AV)
 | row (sz:Nat) (es:List AV)
 | cp (cs:List AV) (off:Nat)
 | clo (f:FuncId) (cs:List AV)
 deriving Inhabited
def AV.cells:AV→List AV
 | .agg cs=>cs
 | a=>[a]
def AV.int (n:Int):AV:= .sc (.int .i64 n)
def AV.bool (b:Bool):AV:= .sc (.bool b)
inductive RV where
 | im (t:Nat) (a:AV)
 | nil
 | own (o s c:Nat)
 | sub (o s c lo hi:Nat)
 | mp (o s off:Nat)
 | mpe (o s c i off:Nat)
 | inr (o s c i j n:Nat)
 | qC
 | fr (a:AV)
 | ws (a:AV)
 deriving Inhabited
inductive SV where
 | v (ag:Bool) (cs:List RV)
 | fn (f:FuncId) (cs:List RV)
 | tup (vs:List (Bool×List RV))
 deriving Inhabited
def SV.qC:SV:= .v false [.qC]
def SV.im (t:Nat) (a:AV):SV:= .v false [.im t a]
inductive OM where
 | imm | sh | gone
 | dp (n:Nat)
 | dd (n i j:Nat)
 | ws
 | fr
 deriving DecidableEq,Inhabited
def OM.cnt:OM→Option Nat
 | .dp n=>some n
 | .dd n _ _=>some n
 | _=>none
def OM.pin (n i j:Nat):OM→Prop
 | .dp m=>m=n
 | .dd m a b=>m=n+1∧a=i∧b=j
 | _=>False
def OM.live:OM→Bool
 | .gone | .dd .. | .ws | .fr=>false
 | _=>true
def OM.get:OM→OM
 | .gone=> .imm
 | m=>m
structure Cell where
 m:OM
 s:Nat
 t:Nat
 a:AV
 deriving Inhabited
structure CV where
 m:OM
 t:Nat
 a:AV
 deriving Inhabited
def CV.at (s:Nat) (x:CV):Cell:=⟨x.m,s,x.t,x.a⟩
structure Obj where
 gen:Nat
 ctr:Nat
 io:Bool
 mem:Bool
 fz:Bool
 ag:Bool
 cs:List Cell
 deriving Inhabited
structure St where
 sl:Nat→SV
 L:Nat→Option Obj
def upd {α:Type} (f:Nat→α) (i:Nat) (x:α):Nat→α:=fun j=>bif j.beq i then x else f j
inductive Arg where
 | im (t:Nat) (ag:Bool) (cs:List AV)
 | ptr (ag:Bool) (cs:List (OM×AV))
 | ow (sz:Nat) (es:List AV)
 | mv (sz:Nat) (es:List AV)
 | mvs (cs:List (OM×AV))
 | ws (ag:Bool) (cs:List AV)
 deriving Inhabited
inductive PC where
 | im (t:Nat) (a:AV)
 | ow (t:Nat) (sz:Nat) (es:List AV)
 | pt (ag:Bool) (cs:List CV)
 deriving Inhabited
abbrev Res:=List (Bool×List PC)
inductive Out where
 | ptr (ag:Bool) (cs:List (OM×AV))
 | ow (sz:Nat) (es:List AV)
 deriving Inhabited
inductive PM where
 | cst (esc:Bool)
 | cut (n:Nat)
 | ptr (ms:List OM)
 | row
 | mv
 | mvs
 | ws
 deriving Inhabited
inductive Sch where
 | done
 | first (i:Nat) (ws us:List Nat) (t:Sch)
 | fork (i:Nat) (t r:Sch)
 | stop
 deriving Inhabited
structure bC where
 par:List PM
 inn:List (Nat×Option (List Nat×List Nat))
 out:List (Nat×Option (List Nat×List Nat))
 aO:List (Nat×(List Nat×List Nat))
 frz:List Nat
 sch:List (Nat×Sch)
 shut:List Nat:=[]
 deriving Inhabited
structure Cfg where
 on:FuncId→Bool
 fc:FuncId→bC
 ext:FuncId→Option (List Arg→Option (Res×List Out))
 dps:List (Nat×Nat)
 gb:List (Nat×(Array Value→Prop))
 frs:List (Nat×Nat)
 ufs:List (Nat×Nat)
def min2 (a b:Int):Int:=if b<a then b else a
def max2 (a b:Int):Int:=if b>a then b else a
def look {α:Type} (d:α):List (Nat×α)→Nat→α
 | [],_=>d
 | (k,v)::r,j=>bif j.beq k then v else look d r j
def Cfg.deep (cfg:Cfg) (nt d:Nat):Bool:=cfg.dps.any fun p=>p.1.beq nt&&p.2.beq d
def Cfg.fresh (cfg:Cfg) (f:Nat):Option Tmp→Bool
 | some d=>cfg.frs.any fun p=>p.1.beq f&&p.2.beq d
 | none=>false
def Cfg.unf (cfg:Cfg) (f:Nat):Option Tmp→Bool
 | some d=>cfg.ufs.any fun p=>p.1.beq f&&p.2.beq d
 | none=>false
def Cfg.par (cfg:Cfg) (f:FuncId) (j:Nat):PM:=((cfg.fc f).par[j]?).getD (.cst false)
section types
variable (P:Program)
def fJ (t:TypeId):Bool:=
 match P.underlying t with
 | some (.struct _) | some (.array _ _)=>true
 | _=>false
def oG (t:TypeId):Option (TypeId×Nat):=
 match P.underlying t with
 | some (.slice e)=>(P.info? e).map fun i=>(e,i.size)
 | _=>none
def IB:Nat→TypeId→Option (List (Option Nat))
 | 0,_=>none
 | d+1,t=>
  match P.underlying t with
  | some (.struct fs)=>fs.toList.foldr (fun f acc=>(IB d f.type).bind fun x=>acc.map (x++·)) (some [])
  | some (.array n e)=>(IB d e).map fun x=>(List.replicate n x).flatten
  | some (.slice e)=>(P.info? e).map fun i=>[some i.size]
  | some _=>some [none]
  | none=>none
def plain:Value→Bool
 | .bool _ | .int _ _ | .string _ | .pointer none | .nilFunc | .nilIface=>true
 | _=>false
def BX:Value→Bool
 | .slice none 0 0=>true
 | _=>false
def zeroCells (t:TypeId):Option (List RV):=
 ((P.info? t).bind (·.zero)).bind fun z=>z.cells.toList.mapM fun v=>if plain v then some (.im 0 (.sc v)) else if BX v then some .nil else none
end types
def ofConst (v:Value):SV:=
 if plain v then .v false [.im 0 (.sc v)] else if BX v then .v false [.nil] else .qC
def St.get (st:St):Operand→SV
 | .tmp t=>st.sl t
 | .const v=>ofConst v
 | .func f=> .fn f []
 | .global _=> .qC
def SV.int? :SV→Option (IntKind×Int)
 | .v false [.im _ (.sc (.int k n))]=>some (k,n)
 | _=>none
def SV.bool? :SV→Option Bool
 | .v false [.im _ (.sc (.bool b))]=>some b
 | _=>none
def SV.one? :SV→Option RV
 | .v false [r]=>some r
 | _=>none
def St.obj (st:St) (o s:Nat):Option Obj:=
 (st.L o).bind fun ob=>bif ob.gen.beq s then some ob else none
def St.cell (st:St) (o s c:Nat):Option (Obj×Cell):=
 (st.L o).bind fun ob=>(ob.cs[c]?).bind fun x=>bif x.s.beq s then some (ob,x) else none
def St.setObj (st:St) (o:Nat) (ob:Obj):St:={st with L:=upd st.L o (some ob)}
def St.cZ (st:St) (d:Nat) (v:SV):St:={st with sl:=upd st.sl d v}
def Obj.bQ (ob:Obj) (c:Nat) (m:OM):Obj:={ob with cs:=ob.cs.modify c fun x=>{x with m}}
def St.newObj (st:St) (d:Nat) (mem ag:Bool) (cs:List CV):St×Nat×Nat:=
 let g:=match st.L d with | some ob=>ob.gen+1 | none=>0
 let s:=match st.L d with | some ob=>ob.ctr+1 | none=>0
 ({st with L:=upd st.L d (some {gen:=g,ctr:=s,io:=false,mem,fz:=false,ag,cs:=cs.map (CV.at s)})},g,s)
def dm (t:Nat):AV→Nat
 | .sc _=>0
 | _=>t
def Mc:List Cell→Nat
 | []=>0
 | x::r=>Nat.max (dm x.t x.a) (Mc r)
def St.view (st:St) (sz:Nat):RV→Option (Bool×Nat×AV)
 | .im t a=>some (false,dm t a,a)
 | .nil=>some (false,0,.row sz [])
 | .own o s c=>(st.cell o s c).bind fun
  | (_,⟨.imm,_,t,a⟩)=>some (false,dm t a,a)
  | (_,⟨.sh,_,t,a⟩)=>some (true,t,a)
  | (_,⟨.dp _,_,t,a⟩)=>some (true,t,a)
  | _=>none
 | .sub o s c lo hi=>(st.cell o s c).bind fun
  | (_,⟨.imm,_,t,.row z es⟩)=>some (false,t,.row z ((es.take hi).drop lo))
  | (_,⟨.sh,_,t,.row z es⟩)=>some (true,t,.row z ((es.take hi).drop lo))
  | _=>none
 | .mp o s off=>(st.obj o s).bind fun ob=>
  if ob.mem&&ob.cs.all (fun x=>x.m.live) then some (!ob.fz,Mc ob.cs,.cp (ob.cs.map (·.a)) off) else none
 | .mpe o s c i off=>(st.cell o s c).bind fun
  | (_,⟨.imm,_,t,.row _ es⟩)=>(es[i]?).map fun e=>(false,t,.cp e.cells off)
  | (_,⟨.sh,_,t,.row _ es⟩)=>(es[i]?).map fun e=>(true,t,.cp e.cells off)
  | _=>none
 | .inr ..=>none
 | .qC=>none
 | .fr _=>none
 | .ws _=>none
def St.WE (st:St) (sz:Nat):RV→Option (Bool×Nat×AV)
 | .fr a=>some (true,0,a)
 | r=>st.view sz r
def RV.shut:RV→RV
 | .fr a=> .ws a
 | r=>r
def SV.shut:SV→SV
 | .v ag cs=> .v ag (cs.map RV.shut)
 | .fn f cs=> .fn f (cs.map RV.shut)
 | .tup vs=> .tup (vs.map fun v=>(v.1,v.2.map RV.shut))
def OM.shut:OM→OM
 | .fr=> .ws
 | m=>m
def Obj.shut (ob:Obj):Obj:={ob with cs:=ob.cs.map fun x=>{x with m:=x.m.shut}}
def St.shut (st:St):Bool→St
 | true=>{st with sl:=fun t=>(st.sl t).shut,L:=fun o=>(st.L o).map Obj.shut}
 | false=>st
def OM.freeze:OM→OM
 | .sh=> .imm
 | .dp _=> .imm
 | m=>m
def St.freeze (st:St):RV→St
 | .own o s c | .sub o s c _ _ | .mpe o s c _ _=>match st.cell o s c with
  | some (ob,⟨.sh,_,_,_⟩)=>st.setObj o (ob.bQ c .imm)
  | some (ob,⟨.dp _,_,_,_⟩)=>st.setObj o (ob.bQ c .imm)
  | _=>st
 | .mp o s _=>match st.obj o s with
  | some ob=>st.setObj o {ob with fz:=true,cs:=ob.cs.map fun x=>{x with m:=x.m.freeze}}
  | none=>st
 | _=>st
def St.fix (st:St) (sz:Nat) (r:RV):Option (Nat×AV×St):=
 (st.view sz r).map fun x=>(x.2.1,x.2.2,st.freeze r)
def St.iM (st:St):List (Option Nat)→List RV→Option (Nat×List AV×St)
 | _,[]=>some (0,[],st)
 | ks,r::rs=>
  (st.fix ((ks.head?.bind id).getD 0) r).bind fun x=>
    (St.iM x.2.2 ks.tail rs).map fun y=>(Nat.max x.1 y.1,x.2.1::y.2.1,y.2.2)
def AV.jO (ag:Bool) (cs:List AV):Option AV:=
 if ag then some (.agg cs) else match cs with | [a]=>some a | _=>none
def St.take (st:St) (sz:Nat):RV→Option (CV×St)
 | .im t a=>some (⟨.imm,dm t a,a⟩,st)
 | .nil=>some (⟨.sh,0,.row sz []⟩,st)
 | .own o s c=>(st.cell o s c).bind fun
  | (_,⟨.imm,_,t,a⟩)=>some (⟨.imm,dm t a,a⟩,st)
  | (ob,⟨.sh,_,t,a⟩)=>some (⟨.sh,t,a⟩,st.setObj o (ob.bQ c .gone))
  | (ob,⟨.dp _,_,t,a⟩)=>some (⟨.dp 0,t,a⟩,st.setObj o (ob.bQ c .gone))
  | _=>none
 | .sub o s c lo hi=>(st.cell o s c).bind fun
  | (_,⟨.imm,_,t,.row z es⟩)=>some (⟨.imm,t,.row z ((es.take hi).drop lo)⟩,st)
  | (ob,⟨.sh,_,t,.row z es⟩)=>some (⟨.sh,t,.row z ((es.take hi).drop lo)⟩,st.setObj o (ob.bQ c .gone))
  | _=>none
 | .inr o s c i j n=>(st.cell o s c).bind fun
  | (ob,⟨.dp n',_,t,.row _ es⟩)=>if n'.beq n then (es[i]?).bind fun e=>match e.cells[j]? with
   | some (.row z es')=>some (⟨.sh,t,.row z es'⟩,st.setObj o (ob.bQ c (.dd (n+1) i j)))
   | _=>none else none
  | _=>none
 | .qC=>none
 | .fr a=>some (⟨.fr,0,a⟩,st)
 | .ws a=>some (⟨.ws,0,a⟩,st)
 | .mp o s off=>(st.fix sz (.mp o s off)).map fun x=>(⟨.imm,x.1,x.2.1⟩,x.2.2)
 | .mpe o s c i off=>(st.fix sz (.mpe o s c i off)).map fun x=>(⟨.imm,x.1,x.2.1⟩,x.2.2)
def St.fF (st:St):List (Option Nat)→List RV→Option (List CV×St)
 | _,[]=>some ([],st)
 | ks,r::rs=>
  (st.take ((ks.head?.bind id).getD 0) r).bind fun x=>
    (St.fF x.2 ks.tail rs).map fun y=>(x.1::y.1,y.2)
end Go.Sim
