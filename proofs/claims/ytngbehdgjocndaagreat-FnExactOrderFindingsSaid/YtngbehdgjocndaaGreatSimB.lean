/- The deterministic machine: what each operation, each region, each piece of code and each function of the program does to a state without addresses. Conditions: none; definitions alone. -/
import Derived.Test.YtngbehdgjocndaaGreatSimA
namespace Go.Sim
def uV (o:Nat):Nat→List Cell→List RV
 | _,[]=>[]
 | c,⟨.imm,_,t,a⟩::r=> .im (dm t a) a::uV o (c+1) r
 | c,⟨.sh,s,_,_⟩::r=> .own o s c::uV o (c+1) r
 | c,⟨.gone,_,_,_⟩::r=> .qC::uV o (c+1) r
 | c,⟨.dp _,s,_,_⟩::r=> .own o s c::uV o (c+1) r
 | c,⟨.dd ..,s,_,_⟩::r=> .own o s c::uV o (c+1) r
 | c,⟨.ws,_,_,a⟩::r=> .ws a::uV o (c+1) r
 | c,⟨.fr,_,_,a⟩::r=> .fr a::uV o (c+1) r
def Oj (o s c i n t:Nat):Nat→List AV→List RV
 | _,[]=>[]
 | j,.row _ _::r=> .inr o s c i j n::Oj o s c i n t (j+1) r
 | j,a::r=> .im t a::Oj o s c i n t (j+1) r
def SV.jO (ag:Bool) (cs:List RV):Option SV:=
 if ag then some (.v true cs) else match cs with | [r]=>some (.v false [r]) | _=>none
def St.load (st:St) (ag:Bool) (n:Nat) (x:RV):Option SV:=
 match x with
 | .mp o s off=>(st.obj o s).bind fun ob=>
  if ob.mem&&Nat.ble (off+n) ob.cs.length then SV.jO ag (uV o off ((ob.cs.drop off).take n)) else none
 | .mpe o s c i off=>(st.cell o s c).bind fun
  | (_,⟨.gone,_,_,_⟩)=>none
  | (_,⟨.dd ..,_,_,_⟩)=>none
  | (_,⟨.ws,_,_,_⟩)=>none
  | (_,⟨.fr,_,_,_⟩)=>none
  | (_,⟨.dp m,_,t,.row _ es⟩)=>(es[i]?).bind fun e=>if Nat.ble (off+n) e.cells.length then SV.jO ag (Oj o s c i m t off ((e.cells.drop off).take n)) else none
  | (_,⟨_,_,t,.row _ es⟩)=>(es[i]?).bind fun e=>if Nat.ble (off+n) e.cells.length then SV.jO ag (((e.cells.drop off).take n).map (.im t)) else none
  | _=>none
 | .im t (.cp cs off)=>if Nat.ble (off+n) cs.length then SV.jO ag (((cs.drop off).take n).map (.im t)) else none
 | .ws (.cp cs off)=>if Nat.ble (off+n) cs.length then SV.jO ag (((cs.drop off).take n).map .ws) else none
 | _=>none
def splice {α:Type} (cs:List α) (off:Nat) (xs:List α):List α:=cs.take off++(xs++cs.drop (off+xs.length))
def AV.splice (e:AV) (off:Nat) (xs:List AV):Option AV:=
 match e,xs with
 | .agg cs,xs=>if Nat.ble (off+xs.length) cs.length then some (.agg (Sim.splice cs off xs)) else none
 | _,[a]=>if off.beq 0 then some a else none
 | _,_=>none
def St.Jw (st:St) (o s c:Nat):Bool:=match st.cell o s c with
 | some (_,⟨.dd ..,_,_,_⟩)=>true
 | _=>false
def St.WG (st:St):RV→Bool
 | .own o s c=>match st.cell o s c with
  | some (_,⟨.dp _,_,_,_⟩)=>true
  | _=>false
 | _=>false
def St.store (st:St) (ks:List (Option Nat)) (x:RV) (cs:List RV):Option St:=
 match x with
 | .mp o s off=>(st.fF ks cs).bind fun (xs,st)=>(st.obj o s).bind fun ob=>
  if ob.mem&&!ob.fz&&Nat.ble (off+xs.length) ob.cs.length then
   some (st.setObj o {ob with ctr:=ob.ctr+1,cs:=Sim.splice ob.cs off (xs.map (CV.at (ob.ctr+1)))})
  else none
 | .mpe o s c i off=>if st.Jw o s c then
  (st.fF ks cs).bind fun (xs,st)=>(st.cell o s c).bind fun
    | (ob,⟨.dd n i' j,s',t',.row sz es⟩)=>(match xs with
     | [⟨.sh,t,.row z as⟩]=>if i'.beq i&&j.beq off then (es[i]?).bind fun e=>(e.splice off [.row z as]).map fun e'=>
         st.setObj o {ob with cs:=ob.cs.set c ⟨.dp (n+1),s',Nat.max t t',.row sz (es.set i e')⟩} else none
     | _=>none)
    | _=>none
  else (st.iM ks cs).bind fun (t,xs,st)=>(st.cell o s c).bind fun
  | (ob,⟨.sh,s',t',.row sz es⟩)=>(es[i]?).bind fun e=>(e.splice off xs).map fun e'=>
   st.setObj o {ob with cs:=ob.cs.set c ⟨.sh,s',Nat.max t t',.row sz (es.set i e')⟩}
  | _=>none
 | .ws (.cp as off)=>match cs,as[off]? with
  | [.im _ (.sc _)],some (.sc _)=>some st
  | _,_=>none
 | _=>none
def St.vW (st:St):RV→Option Bool
 | .mp o s _=>(st.obj o s).map fun _=>false
 | .mpe o s c _ _=>(st.cell o s c).bind fun
  | (_,⟨.gone,_,_,_⟩)=>none
  | (_,⟨_,_,_,.row _ _⟩)=>some false
  | _=>none
 | .im _ (.cp ..)=>some false
 | .ws (.cp ..)=>some false
 | .im _ (.sc (.pointer none))=>some true
 | _=>none
def RV.shift (n:Nat):RV→Option RV
 | .mp o s off=>some (.mp o s (off+n))
 | .mpe o s c i off=>some (.mpe o s c i (off+n))
 | .im t (.cp cs off)=>some (.im t (.cp cs (off+n)))
 | .ws (.cp cs off)=>some (.ws (.cp cs (off+n)))
 | _=>none
def St.shift (st:St) (n:Nat) (r:RV):Option RV:=(st.vW r).bind fun _=>r.shift n
def St.len (st:St):RV→Option Nat
 | .im _ (.row _ es)=>some es.length
 | .ws (.row _ es)=>some es.length
 | .nil=>some 0
 | .own o s c=>(st.cell o s c).bind fun
  | (_,⟨.gone,_,_,_⟩)=>none
  | (_,⟨_,_,_,.row _ es⟩)=>some es.length
  | _=>none
 | .sub o s c lo hi=>(st.cell o s c).bind fun
  | (_,⟨.gone,_,_,_⟩)=>none
  | (_,⟨_,_,_,.row _ _⟩)=>some (hi - lo)
  | _=>none
 | _=>none
def St.ji (st:St) (sz:Nat) (x:RV) (i:Nat):Option RV:=
 match x with
 | .im t (.row z es)=>if z.beq sz then (es[i]?).map fun e=> .im t (.cp e.cells 0) else none
 | .ws (.row z es)=>if z.beq sz then (es[i]?).map fun e=> .ws (.cp e.cells 0) else none
 | .own o s c=>(st.cell o s c).bind fun
  | (_,⟨.gone,_,_,_⟩)=>none
  | (_,⟨_,_,_,.row z es⟩)=>if z.beq sz&&Nat.blt i es.length then some (.mpe o s c i 0) else none
  | _=>none
 | .sub o s c lo hi=>(st.cell o s c).bind fun
  | (_,⟨.gone,_,_,_⟩)=>none
  | (_,⟨_,_,_,.row z _⟩)=>if z.beq sz&&Nat.blt i (hi - lo) then some (.mpe o s c (lo+i) 0) else none
  | _=>none
 | _=>none
def vU (i:Int):Option Nat:=if 0≤i then some i.toNat else none
def St.reslice (st:St) (sz:Nat) (x:RV) (lo hi:Option Int):Option RV:=
 (st.len x).bind fun n=>
 (match lo with | none=>some 0 | some l=>vU l).bind fun l=>
 (match hi with | none=>some n | some h=>vU h).bind fun h=>
 if Nat.ble l h&&Nat.ble h n then
  match x with
  | .im t (.row z es)=>if z.beq sz then some (.im t (.row z ((es.take h).drop l))) else none
  | .nil=>some .nil
  | .own o s c=>match lo,hi with
   | none,none=>some (.own o s c)
   | _,_=>(st.cell o s c).bind fun x=>match x.2.a with | .row z _=>if z.beq sz then some (.sub o s c l h) else none | _=>none
  | .sub o s c l' _=>(st.cell o s c).bind fun x=>match x.2.a with | .row z _=>if z.beq sz&&(l'.beq 0||l.beq 0) then some (.sub o s c (l'+l) (l'+h)) else none | _=>none
  | _=>none
 else none
def Jy (op:BinOp) (k:IntKind) (a b:Int):Option Value:=
 match op with
 | .add=>some (.int k (k.wrap (a+b)))
 | .sub=>some (.int k (k.wrap (a - b)))
 | .mul=>some (.int k (k.wrap (a*b)))
 | .quo=>if b=0 then none else some (.int k (k.wrap (a.tdiv b)))
 | .rem=>if b=0 then none else some (.int k (a.tmod b))
 | .and=>some (.int k (k.wrap (BitVec.ofInt k.bits a &&& BitVec.ofInt k.bits b).toNat))
 | .or=>some (.int k (k.wrap (BitVec.ofInt k.bits a ||| BitVec.ofInt k.bits b).toNat))
 | .xor=>some (.int k (k.wrap (BitVec.ofInt k.bits a ^^^ BitVec.ofInt k.bits b).toNat))
 | .eql=>some (.bool (a==b))
 | .neq=>some (.bool (a != b))
 | .lss=>some (.bool (a<b))
 | .leq=>some (.bool (a≤b))
 | .gtr=>some (.bool (a>b))
 | .geq=>some (.bool (a≥b))
 | _=>none
def Md (op:BinOp) (a b:ByteArray):Option Value:=
 match op with
 | .add=>if ((a.size+b.size:Nat):Int) >IntKind.i64.max then none else some (.string (a++b))
 | .eql=>some (.bool (a.toList==b.toList))
 | .neq=>some (.bool !(a.toList==b.toList))
 | .lss=>some (.bool (Op.bytesLess a.toList b.toList))
 | .leq=>some (.bool (Op.bytesLess a.toList b.toList||a.toList==b.toList))
 | .gtr=>some (.bool !(Op.bytesLess a.toList b.toList||a.toList==b.toList))
 | .geq=>some (.bool !(Op.bytesLess a.toList b.toList))
 | _=>none
def binop (st:St) (ty:Option TypeDesc) (op:BinOp) (x y:SV):Option Value:=
 match x,y with
 | .v false [.im _ (.sc (.int k a))],.v false [.im _ (.sc (.int k' b))]=>
  match op with
  | .shl=>if b<0 then none else some (.int k (k.wrap (a*2 ^ (min b.toNat k.bits))))
  | .shr=>if b<0 then none else some (.int k (a.fdiv (2 ^ (min b.toNat k.bits))))
  | _=>if k=k' then Jy op k a b else none
 | .v false [.im _ (.sc (.string a))],.v false [.im _ (.sc (.string b))]=>Md op a b
 | .v false [.im _ (.sc (.bool a))],.v false [.im _ (.sc (.bool b))]=>
  match ty,op with
  | some .bool,.eql=>some (.bool (a==b))
  | some .bool,.neq=>some (.bool !(a==b))
  | _,_=>none
 | .v false [a],.v false [b]=>match ty,st.vW a,st.vW b with
  | some (.pointer _),some p,some q=>match p||q,op with
   | true,.eql=>some (.bool (p&&q))
   | true,.neq=>some (.bool !(p&&q))
   | _,_=>none
  | _,_,_=>none
 | _,_=>none
def PD:List RV→Option (List Value)
 | []=>some []
 | .im _ (.sc v)::r=>(PD r).map (v::·)
 | _=>none
def Jz (P:Program):Nat→TypeId→List Value→List Value→Option (List Bool)
 | 0,_,_,_=>none
 | d+1,t,xs,ys=>
  match P.underlying t,xs,ys with
  | some .bool,[.bool a],[.bool b]=>some [a==b]
  | some (.int _),[.int k a],[.int k' b]=>if k=k' then some [a==b] else none
  | some .string,[.string a],[.string b]=>some [a.toList==b.toList]
  | some (.array n e),xs,ys=>if n.beq 0 then none else ((List.range n).mapM fun i=>Jz P d e ((xs.drop (i*P.cellsOf e)).take (P.cellsOf e)) ((ys.drop (i*P.cellsOf e)).take (P.cellsOf e))).map List.flatten
  | some (.struct fs),xs,ys=>if P.stoodInHeld t||fs.any (·.name=="_") then none else
   (fs.toList.mapM fun f=>Jz P d f.type ((xs.drop f.offset).take (P.cellsOf f.type)) ((ys.drop f.offset).take (P.cellsOf f.type))).map List.flatten
  | _,_,_=>none
def Yh:List Bool→Bool
 | []=>true
 | [a]=>a
 | a::r=>a&&Yh r
def PE (P:Program) (t:TypeId) (op:BinOp) (xs ys:List Value):Option Value:=
 if fJ P t&&!P.eqGuardType P.depth t then
  (Jz P 24 t xs ys).bind fun l=>match op with
    | .eql=>some (.bool (Yh l))
    | .neq=>some (.bool (!Yh l))
    | _=>none
 else none
def AL (P:Program) (st:St) (t:TypeId) (op:BinOp) (x y:SV):Option Value:=
 match x,y with
 | .v true xs,.v true ys=>(PD xs).bind fun xs=>(PD ys).bind fun ys=>PE P t op xs ys
 | x,y=>binop st (P.underlying t) op x y
def unop (op:UnOp) (x:SV):Option Value:=
 match op,x with
 | .not,.v false [.im _ (.sc (.bool b))]=>some (.bool !b)
 | .neg,.v false [.im _ (.sc (.int k a))]=>some (.int k (k.wrap (0 - a)))
 | _,_=>none
def KF (f:Int→Int→Int) (k:IntKind) (a:Int):List SV→Option Value
 | []=>some (.int k a)
 | .v false [.im _ (.sc (.int _ b))]::r=>KF f k (f a b) r
 | _=>none
def Ee (f:Int→Int→Int):List SV→Option Value
 | .v false [.im _ (.sc (.int k a))]::r=>KF f k a r
 | _=>none
def RV.ac5 :RV→Option ByteArray
 | .im _ (.sc (.string s))=>some s
 | _=>none
def St.elems (st:St) (sz:Nat) (x:RV):Option (Nat×List AV):=
 match x.ac5 with
 | some s=>if sz.beq 1 then some (0,s.data.toList.map fun b=> .sc (.int .u8 b.toNat)) else none
 | none=>if st.WG x then none else (st.view sz x).bind fun p=>match p.2.2 with
  | .row z es=>if z.beq sz then some (p.2.1,es) else none
  | _=>none
def bytesOf:List AV→Option (List UInt8)
 | []=>some []
 | .sc (.int .u8 n)::r=>(bytesOf r).map (UInt8.ofNat n.toNat::·)
 | _=>none
def AV.OH:AV→Bool
 | .sc _=>true
 | _=>false
def AV.flat (e:AV):Bool:=e.cells.all AV.OH
def fK (ks:List (Option Nat)) (t:Nat) (es:List AV):Nat:=bif ks.any (·.isSome) then t else bif es.all AV.flat then 0 else t
def room (n bytes:Nat):Bool:=Nat.blt 0 bytes&&Nat.ble (n*bytes) 140737488355328
def RV.nul:RV→Bool
 | .nil | .im _ (.sc _)=>true
 | _=>false
section ops
variable (P:Program) (cfg:Cfg) (aY:FuncId→List Arg→Option (Res×List Out))
def fC (t:TypeId):Option (List (Option Nat)):=IB P 24 t
def St.assign (st:St) (d sz:Nat) (x:SV):Option St:=
 let go (r:RV):Option St:=(st.take sz r).map fun (x,st)=>
  match x.m with
  | .sh=>let p:=st.newObj d false false [x];p.1.cZ d (.v false [.own d p.2.2 0])
  | .dp _=>let p:=st.newObj d false false [x];p.1.cZ d (.v false [.own d p.2.2 0])
  | .ws=>st.cZ d (.v false [.ws x.a])
  | .fr=>st.cZ d (.v false [.fr x.a])
  | _=>st.cZ d (.im x.t x.a)
 match x with
 | .v false [.own o s c]=>if o.beq d then some (st.cZ d x) else go (.own o s c)
 | .v false [.sub o s c lo hi]=>go (.sub o s c lo hi)
 | .v false [.nil]=>go .nil
 | x=>some (st.cZ d x)
def frB:Nat:=1000000007
def su (st:St) (ks:List (Option Nat)):List RV→Option (List Nat×Nat×List AV)
 | []=>some ([],0,[])
 | r::rs=>(st.WE ((ks.head?.bind id).getD 0) r).bind fun (b,t,a)=>
  (su st ks.tail rs).map fun (bs,t',as)=>
    ((match b,r with | true,.own o _ _ | true,.sub o _ _ _ _ | true,.mp o _ _ | true,.mpe o _ _ _ _=>o::bs | true,.fr _=>frB::bs | _,_=>bs),Nat.max t t',a::as)
def fits:List OM→List Cell→Option (List (OM×AV)×Nat)
 | [],[]=>some ([],0)
 | .imm::ms,⟨.imm,_,t,a⟩::cs=>(fits ms cs).map fun p=>((.imm,a)::p.1,Nat.max (dm t a) p.2)
 | .sh::ms,⟨.sh,_,t,a⟩::cs=>if t.beq 0 then (fits ms cs).map fun p=>((.sh,a)::p.1,p.2) else none
 | .gone::ms,⟨.imm,_,t,a⟩::cs=>if (dm t a).beq 0 then (fits ms cs).map fun p=>((.gone,a)::p.1,p.2) else none
 | _,_=>none
def PG:Nat→List OM→List Nat
 | _,[]=>[]
 | c,.imm::ms=>c::PG (c+1) ms
 | c,.gone::ms=>c::PG (c+1) ms
 | c,_::ms=>PG (c+1) ms
def Obj.lD (ob:Obj):List Nat→Obj
 | []=>ob
 | c::l=>Obj.lD (match ob.cs[c]? with | some ⟨.sh,_,_,_⟩=>ob.bQ c .imm | some ⟨.dp _,_,_,_⟩=>ob.bQ c .imm | _=>ob) l
def CV.plain0 (x:CV):Bool:=match x.m with
 | .imm=>(dm x.t x.a).beq 0
 | .sh=>x.t.beq 0
 | _=>false
def St.SE (st:St) (m:PM) (ks:List (Option Nat)) (x:SV):Option (Option Arg×St):=
 match m,x with
 | .cst true,.v ag cs=>(st.iM ks cs).bind fun p=>if p.1.beq 0 then some (some (.im 0 ag p.2.1),p.2.2) else none
 | .mv,.v false [r]=>(st.take ((ks.head?.bind id).getD 0) r).bind fun x=>if !x.1.t.beq 0 then none else match x.1.m,x.1.a with
  | .sh,.row sz es=>some (some (.mv sz es),x.2)
  | _,_=>none
 | .mvs,.v true cs=>(st.fF ks cs).bind fun p=>if Nat.blt p.1.length 4096&&p.1.all CV.plain0 then some (some (.mvs (p.1.map fun x=>(x.m,x.a))),p.2) else none
 | .ptr ms,.v false [.mp o s 0]=>(st.obj o s).bind fun ob=>if ob.mem&&!ob.fz then some (none,st.setObj o (ob.lD (PG 0 ms))) else none
 | _,_=>some (none,st)
def Ol (n:Nat):List AV→List AV
 | [.cp cs off]=>[.cp ((cs.drop off).take n) 0]
 | as=>as
def RV.shape:RV→Option AV
 | .ws a=>some a
 | .im _ (.sc v)=>some (.sc v)
 | _=>none
structure Seen where
 arg:Arg
 bor:List Nat
 iZ:List (Nat×Nat×Nat)
 tag:Nat
 fO:Nat
def St.see (st:St) (m:PM) (ks:List (Option Nat)) (x:SV):Option Arg→Option Seen
 | some a=>some ⟨a,[],[],0,0⟩
 | none=>match m,x with
  | .cst _,.v ag cs=>(su st ks cs).map fun p=>⟨.im 2 ag p.2.2,p.1,[],p.2.1,0⟩
  | .cut n,.v ag cs=>(su st ks cs).map fun p=>⟨.im 2 ag (Ol n p.2.2),p.1,[],p.2.1,0⟩
  | .cst _,.fn f cs=>(su st [] cs).map fun p=>⟨.im 2 false [.clo f p.2.2],p.1,[],p.2.1,0⟩
  | .ptr ms,.v false [.mp o s 0]=>(st.obj o s).bind fun ob=>if ob.mem&&!ob.fz then
   (fits ms ob.cs).map fun p=>⟨.ptr ob.ag p.1,[],[(o,s,0)],0,p.2⟩
   else none
  | .row,.v false [.own o s c]=>(st.cell o s c).bind fun
   | (_,⟨.sh,_,0,.row sz es⟩)=>some ⟨.ow sz es,[],[(o,s,c)],0,0⟩
   | _=>none
  | .row,.v false [.ws y]=>some ⟨.ws false [y],[],[],0,0⟩
  | .ws,.v ag cs=>(cs.mapM RV.shape).map fun as=>⟨.ws ag as,[],[],0,0⟩
  | _,_=>none
def St.wS (st:St) (f:FuncId):Nat→List (TypeId×SV)→Option (List (Option Arg)×St)
 | _,[]=>some ([],st)
 | j,(t,x)::xs=>(st.SE (cfg.par f j) ((fC P t).getD []) x).bind fun p=>
  (St.wS p.2 f (j+1) xs).map fun q=>(p.1::q.1,q.2)
structure Pn where
 args:List Arg
 bor:List Nat
 iZ:List (Nat×Nat×Nat)
 tag:Nat
 fO:Nat
def St.vX (st:St) (f:FuncId):Nat→List (TypeId×SV)→List (Option Arg)→Option Pn
 | _,[],[]=>some ⟨[],[],[],0,0⟩
 | j,(t,x)::xs,a::as=>(st.see (cfg.par f j) ((fC P t).getD []) x a).bind fun p=>
  (St.vX st f (j+1) xs as).map fun q=>⟨p.arg::q.args,p.bor++q.bor,p.iZ++q.iZ,Nat.max p.tag q.tag,Nat.max p.fO q.fO⟩
 | _,_,_=>none
def AV.ZJ (sz:Nat):AV→Bool
 | .row z _=>z.beq sz
 | _=>false
def lK (st:St) (tag:Nat):List (Nat×Nat×Nat)→List Out→Option St
 | [],[]=>some st
 | (o,s,_)::ls,.ptr _ cs::os=>(st.obj o s).bind fun ob=>lK (st.setObj o {ob with ctr:=ob.ctr+1,cs:=cs.map fun x=>⟨x.1.get,ob.ctr+1,(match x.1 with | .imm=>dm tag x.2 | _=>0),x.2⟩}) tag ls os
 | (o,s,c)::ls,.ow sz es::os=>(st.cell o s c).bind fun x=>if x.2.a.ZJ sz=true then lK (st.setObj o {x.1 with cs:=x.1.cs.set c ⟨.sh,x.2.s,0,.row sz es⟩}) tag ls os else none
 | _,_=>none
def DV (bor:Bool) (tag fO t:Nat):Option Nat:=
 match t with
 | 0=>some 0
 | 1=>some fO
 | _=>if bor then none else some (Nat.max tag fO)
def cellsIn (d s:Nat) (mt:Nat→Option Nat):List PC→List CV→Option (List RV×List CV)
 | [],acc=>some ([],acc)
 | .im _ (.sc v)::r,acc=>(cellsIn d s mt r acc).map fun p=>(.im 0 (.sc v)::p.1,p.2)
 | .im t a::r,acc=>(mt t).bind fun t=>(cellsIn d s mt r acc).map fun p=>(.im t a::p.1,p.2)
 | .pt _ _::_,_=>none
 | .ow t sz es::r,acc=>(mt t).bind fun t=>(cellsIn d s mt r (acc++[⟨.sh,t,.row sz es⟩])).map fun p=>(.own d s acc.length::p.1,p.2)
def uX (d s:Nat) (mt:Nat→Option Nat):Res→List CV→Option (List (Bool×List RV)×List CV)
 | [],acc=>some ([],acc)
 | (ag,cs)::r,acc=>(cellsIn d s mt cs acc).bind fun p=>(uX d s mt r p.2).map fun q=>((ag,p.1)::q.1,q.2)
def TL (mt:Nat→Option Nat):List CV→Option (List CV)
 | []=>some []
 | x::r=>(mt x.t).bind fun t=>(TL mt r).map (⟨x.m,t,x.a⟩::·)
def F5 (nt:Nat):Option Tmp→Bool
 | none=>true
 | some d=>Nat.blt d nt
def St.sG (st:St) (d:Nat):Nat:=match st.L d with | some ob=>ob.ctr+1 | none=>0
def F6:List (Bool×List RV)→SV
 | [(ag,rs)]=> .v ag rs
 | vs=> .tup vs
def St.Dw (st:St) (d:Nat):List CV→St
 | []=>st
 | c::cs=>(st.newObj d false false (c::cs)).1
def St.unpack (st:St) (dst:Option Tmp) (mt:Nat→Option Nat) (res:Res):Option St:=
 match dst with
 | none=>some st
 | some d=>match res with
 | [(false,[.pt ag cs])]=>(TL mt cs).map fun cs=>let p:=st.newObj d true ag cs;p.1.cZ d (.v false [.mp d p.2.1 0])
 | res=>
  (uX d (st.sG d) mt res []).map fun q=>(st.Dw d q.2).cZ d (F6 q.1)
def overlap (xs ys:List Nat):Bool:=xs.any fun x=>ys.any fun y=>x.beq y
def Gj:List Nat→Bool
 | []=>false
 | x::xs=>xs.any (fun y=>x.beq y)||Gj xs
def Arg.TM:Arg→Bool
 | .im 2 _ _=>true
 | _=>false
def xk:List PC→Option (List RV)
 | []=>some []
 | .im _ (.sc v)::r=>(xk r).map (.im 0 (.sc v)::·)
 | .im 0 a::r=>(xk r).map (.fr a::·)
 | .ow 0 sz es::r=>(xk r).map (.fr (.row sz es)::·)
 | _::_=>none
def Ef:Res→Option (List (Bool×List RV))
 | []=>some []
 | (ag,cs)::r=>(xk cs).bind fun rs=>(Ef r).map ((ag,rs)::·)
def ac6:Res→Option Res
 | [(false,[.im 0 (.row sz es)])]=>if es.all AV.flat then some [(false,[.ow 0 sz es])] else none
 | [(false,[.im 0 (.row sz es)]),(false,[.im _ (.sc v)])]=>if es.all AV.flat then some [(false,[.ow 0 sz es]),(false,[.im 0 (.sc v)])] else none
 | [(false,[.im 0 (.row sz es)]),(false,[.im _ (.sc v)]),(false,[.im _ (.sc u)])]=>if es.all AV.flat then some [(false,[.ow 0 sz es]),(false,[.im 0 (.sc v)]),(false,[.im 0 (.sc u)])] else none
 | _=>none
def St.wB (st:St) (dst:Option Tmp) (f:FuncId) (xs:List (TypeId×SV)):Option St:=
 (st.wS P cfg f 0 xs).bind fun pre=>(pre.2.vX P cfg f 0 xs pre.1).bind fun p=>
   if overlap p.bor (p.iZ.map (·.1))||Gj (p.iZ.map (·.1)) then none else
   (aY f p.args).bind fun r=>
     if cfg.unf f dst&&p.args.all Arg.TM then (ac6 r.1).bind fun res=>pre.2.unpack dst some res else
     if cfg.fresh f dst&&p.args.all Arg.TM then (Ef r.1).bind fun q=>dst.map fun d=>pre.2.cZ d (F6 q) else
     (lK pre.2 p.fO p.iZ r.2).bind fun st=>st.unpack dst (DV (!p.bor.isEmpty) p.tag p.fO) r.1
def St.wU (st:St) (d:Nat) (f:FuncId) (o s c i j n:Nat):Option St:=
 (st.take 0 (.inr o s c i j n)).bind fun q=>match q.1 with
   | ⟨.sh,tg,.row z es⟩=>
    let p:=q.2.newObj d false false [⟨.sh,tg,.row z es⟩]
    (p.1.wB P cfg aY none f [(0,.v false [.own d p.2.2 0])]).bind fun st2=>(st2.take 0 (.own d p.2.2 0)).bind fun y=>match y.1 with
      | ⟨.sh,t2,.row z2 es2⟩=>(y.2.cell o s c).bind fun x=>match x with
       | (ob,⟨.dd n2 i2 j2,s',t',.row sz es0⟩)=>if n2.beq (n+1)&&i2.beq i&&j2.beq j&&!o.beq d then (es0[i]?).bind fun e=>(e.splice j [.row z2 es2]).map fun e'=>
           (y.2.setObj o {ob with cs:=ob.cs.set c ⟨.dp (n+2),s',Nat.max t2 t',.row sz (es0.set i e')⟩}).cZ d SV.qC
        else none
       | _=>none
      | _=>none
   | _=>none
def St.call (st:St) (dst:Option Tmp) (f:FuncId) (xs:List (TypeId×SV)):Option St:=
 (st.wB P cfg aY dst f xs).or (match dst,cfg.par f 0,xs with
   | some d,.row,[(_,.v false [.inr o s c i j n])]=>st.wU P cfg aY d f o s c i j n
   | _,_,_=>none)
def St.BA (st:St) (d:Nat) (ks:List (Option Nat)) (sz bytes:Nat) (x y:RV):Option St:=
 (st.elems sz y).bind fun (ty,ys)=>
 let fin (t:Nat) (es:List AV) (st:St):Option St:=
  if room (es.length+ys.length) bytes then
   let p:=st.newObj d false false [⟨.sh,Nat.max t (fK ks ty ys),.row sz (es++ys)⟩]
   some (p.1.cZ d (.v false [.own d p.2.2 0]))
  else none
 match x with
 | .nil=>fin 0 [] st
 | .own o s c=>(st.take sz (.own o s c)).bind fun
  | (⟨.sh,t,.row z es⟩,st)=>if z.beq sz then fin t es st else none
  | _=>none
 | .sub o s c 0 hi=>(st.take sz (.sub o s c 0 hi)).bind fun
  | (⟨.sh,t,.row z es⟩,st)=>if z.beq sz then fin t es st else none
  | _=>none
 | .inr o s c i j n=>(st.take sz (.inr o s c i j n)).bind fun
  | (⟨.sh,t,.row z es⟩,st)=>if z.beq sz then fin t es st else none
  | _=>none
 | _=>none
def St.IC (st:St) (d sz bytes:Nat) (x y:RV):Option St:=
 (st.take sz x).bind fun p=>match p.1 with
   | ⟨.dp _,t,.row z es⟩=>(p.2.take sz y).bind fun q=>match q.1 with
    | ⟨.dp _,t2,.row z2 ys⟩=>if z.beq sz&&z2.beq sz&&room (es.length+ys.length) bytes then
        let r:=q.2.newObj d false false [⟨.dp 0,Nat.max t t2,.row sz (es++ys)⟩]
        some (r.1.cZ d (.v false [.own d r.2.2 0]))
     else none
    | _=>none
   | _=>none
def St.append (st:St) (d:Nat) (ks:List (Option Nat)) (sz bytes:Nat) (x y:RV):Option St:=
 (st.BA d ks sz bytes x y).or (st.IC d sz bytes x y)
def St.IE (st:St) (d:Nat) (ks:List (Option Nat)) (sz:Nat):List (Nat×SV)→Option St
 | [(0,.v false [r])]=>if sz.beq 1 then (st.take ((ks.head?.bind id).getD 0) r).bind fun x=>match x.1 with
     | ⟨.sh,t,.row z es⟩=>let p:=x.2.newObj d false false [⟨.dp 0,t,.row sz [.row z es]⟩];some (p.1.cZ d (.v false [.own d p.2.2 0]))
     | _=>none
  else none
 | _=>none
def UH (cfg:Cfg) (nt d:Nat):Nat→List CV→List CV
 | _,[]=>[]
 | c,x::xs=>(bif cfg.deep nt ((c+2) *1000000+d) then (match x with | ⟨.sh,t,.row sz []⟩=>⟨.dp 0,t,.row sz []⟩ | x=>x) else x)::UH cfg nt d (c+1) xs
def UI (cfg:Cfg) (nt d:Nat) (xs:List CV):List CV:=bif cfg.deep nt (1000000+d) then UH cfg nt d 0 xs else xs
def St.alive (st:St):RV→Bool
 | .im _ _ | .nil=>true
 | .own o s c=>match st.cell o s c with | some (_,⟨.gone,_,_,_⟩)=>false | some _=>true | none=>false
 | .qC=>false
 | .fr _=>false
 | .ws _=>false
 | r=>(st.vW r).isSome||(st.len r).isSome
def qE (st:St) (places:List (Nat×Nat)):List RV→List (Nat×SV)→Option (List RV)
 | cs,[]=>some cs
 | cs,(i,.v _ xs)::r=>(places[i]?).bind fun p=>if p.2.beq xs.length&&Nat.ble (p.1+p.2) cs.length&&xs.all st.alive then qE st places (Sim.splice cs p.1 xs) r else none
 | _,_=>none
def KG (fs:Array Field):Option (List (Nat×Nat)):=fs.toList.mapM fun f=>(P.info? f.type).map fun i=>(f.offset,i.size)
def St.parts (st:St) (ag:Bool) (ks:List (Option Nat)) (sz:Nat):Nat→List (Nat×SV)→Option (Nat×List AV×St)
 | _,[]=>some (0,[],st)
 | k,(i,.v _ cs)::r=>if i.beq k&&cs.length.beq sz then (st.iM ks cs).bind fun (t,as,st)=>(AV.jO ag as).bind fun e=>
  (St.parts st ag ks sz (k+1) r).map fun (t',es,st)=>(Nat.max t t',e::es,st) else none
 | _,_=>none
def ac7 (P:Program) (t:TypeId) (i:Nat):SV→Option RV
 | .v true cs=>match P.underlying t with
  | some (.array n e)=>(P.info? e).bind fun inf=>if Nat.blt i n&&!fJ P e&&inf.size.beq 1 then (P.underlying e).bind fun _=>cs[i]? else none
  | _=>none
 | _=>none
def aH (nt:Nat) (o:Oper) (st:St):Option St:=
 let put (v:SV):Option St:=match o.dst with | none=>some st | some d=>if Nat.blt d nt then some (st.cZ d v) else none
 let val (v:Value):Option St:=put (.im 0 (.sc v))
 let at_ (k:Nat→Option St):Option St:=o.dst.bind fun d=>if Nat.blt d nt then k d else none
 match o.op with
 | .move x=>put (st.get x)
 | .assign x=>at_ fun d=>st.assign d (((oG P o.type).map (·.2)).getD 0) (st.get x)
 | .pick c a b=>(st.get c).bool?.bind fun t=>put (bif t then st.get a else st.get b)
 | .alloc t=>at_ fun d=>(zeroCells P t).bind fun cs=>(fC P t).bind fun ks=>(st.fF ks cs).map fun (xs,st)=>
  let p:=st.newObj d true (fJ P t) xs;p.1.cZ d (.v false [.mp d p.2.1 0])
 | .box t x=>at_ fun d=>match st.get x with
  | .v _ cs=>(fC P t).bind fun ks=>(st.fF ks cs).map fun (xs,st)=>
   let p:=st.newObj d true (fJ P t) (UI cfg nt d xs);p.1.cZ d (.v false [.mp d p.2.1 0])
  | _=>none
 | .build t ps=>(zeroCells P t).bind fun zs=>match P.underlying t with
  | some (.struct fs)=>(KG P fs).bind fun places=>(qE st places zs (ps.toList.map fun p=>(p.1,st.get p.2))).bind fun cs=>put (.v true cs)
  | some (.array n e)=>(P.info? e).bind fun inf=>(qE st ((List.range n).map fun i=>(i*inf.size,inf.size)) zs (ps.toList.map fun p=>(p.1,st.get p.2))).bind fun cs=>put (.v true cs)
  | _=>none
 | .buildSlice t n ps=>at_ fun d=>(oG P t).bind fun (e,sz)=>(fC P e).bind fun ks=>(zeroCells P e).bind fun _=>
  if n.beq ps.size&&Nat.blt 0 sz&&Nat.ble (n*sz) 16777216 then
   bif ps.size.beq 1&&cfg.deep nt d then st.IE d ks sz (ps.toList.map fun p=>(p.1,st.get p.2)) else
   (st.parts (fJ P e) ks sz 0 (ps.toList.map fun p=>(p.1,st.get p.2))).map fun (tg,es,st)=>
     let p:=st.newObj d false false [⟨.sh,fK ks tg es,.row sz es⟩];p.1.cZ d (.v false [.own d p.2.2 0])
  else none
 | .load t a=>(fC P t).bind fun _=>(st.get a).one?.bind fun r=>(st.load (fJ P t) (if fJ P t then P.cellsOf t else 1) r).bind put
 | .store t a x=>if o.dst.isSome then none else (st.get a).one?.bind fun r=>match st.get x with
  | .v _ cs=>if cs.length.beq (P.cellsOf t) then (fC P t).bind fun ks=>st.store ks r cs else none
  | _=>none
 | .nilCheck x=>match st.get x with
  | .v false [r]=>(match st.vW r with | some false=>put (.v false [r]) | _=>none)
  | .fn f cs=>put (.fn f cs)
  | _=>none
 | .binOp op t x y _=>(AL P st t op (st.get x) (st.get y)).bind val
 | .unOp op _ x=>(unop op (st.get x)).bind val
 | .convert s t x=>match P.underlying s,P.underlying t,st.get x with
  | some _,some (.int k),.v false [.im _ (.sc (.int _ n))]=>val (.int k (k.wrap n))
  | some .string,some .string,.v false [.im _ (.sc (.string b))]=>val (.string b)
  | some (.slice e),some .string,.v false [r]=>(match P.underlying e with
   | some (.int .u8)=>(st.elems 1 r).bind fun p=>(bytesOf p.2).bind fun l=>val (.string ⟨l.toArray⟩)
   | _=>none)
  | _,_,_=>none
 | .fieldAddr s x f=>match P.underlying s with
  | some (.struct fs)=>(fs[f]?).bind fun fd=>if (P.cellsOf fd.type).beq 0 then none else ((st.get x).one?.bind (st.shift fd.offset)).bind fun r=>put (.v false [r])
  | _=>none
 | .indexAddr t x i=>(st.get i).int?.bind fun (_,i)=>(vU i).bind fun i=>(st.get x).one?.bind fun r=>match P.underlying t with
  | some (.slice e)=>(P.info? e).bind fun inf=>(st.ji inf.size r i).bind fun r=>put (.v false [r])
  | some (.array n e)=>if Nat.blt i n then (P.info? e).bind fun inf=>(st.shift (i*inf.size) r).bind fun r=>put (.v false [r]) else none
  | _=>none
 | .index t x i=>(st.get i).int?.bind fun (_,i)=>(vU i).bind fun i=>match P.underlying t,st.get x with
  | some .string,.v false [.im _ (.sc (.string s))]=>(s.data.toList[i]?).bind fun b=>val (.int .u8 b.toNat)
  | _,_=>(ac7 P t i (st.get x)).bind fun r=>put (.v false [r])
 | .field t x f=>match P.underlying t,st.get x with
  | some (.struct fs),.v true cs=>(fs[f]?).bind fun fd=>(P.underlying fd.type).bind fun _=>(SV.jO (fJ P fd.type) ((cs.drop fd.offset).take (P.cellsOf fd.type))).bind put
  | _,_=>none
 | .slice t x lo hi none=>
  let b (y:Option Operand):Option (Option Int):=match y with | none=>some none | some y=>(st.get y).int?.map fun p=>some p.2
  (b lo).bind fun lo=>(b hi).bind fun hi=>match P.underlying t,st.get x with
  | some .string,.v false [.im _ (.sc (.string s))]=>
   (match lo with | none=>some 0 | some l=>vU l).bind fun l=>(match hi with | none=>some s.size | some h=>vU h).bind fun h=>
     if Nat.ble l h&&Nat.ble h s.size then val (.string (s.extract l h)) else none
  | some (.slice e),.v false [r]=>(P.info? e).bind fun inf=>(st.reslice inf.size r lo hi).bind fun r=>put (.v false [r])
  | _,_=>none
 | .makeSlice t n c=>at_ fun d=>(oG P t).bind fun (e,sz)=>(zeroCells P e).bind fun zs=>if !zs.length.beq sz then none else (fC P e).bind fun ks=>
  (st.get n).int?.bind fun (_,n)=>(st.get c).int?.bind fun (_,c)=>(vU n).bind fun n'=>if n=c∧room n' (P.bytesOf e)∧n<9223372036854775808 then
    (st.iM ks zs).bind fun (tg,as,st)=>(AV.jO (fJ P e) as).map fun z=>
      let p:=st.newObj d false false [⟨bif cfg.deep nt d&&zs.all RV.nul then .dp 0 else .sh,fK ks tg [z],.row sz (List.replicate n' z)⟩];p.1.cZ d (.v false [.own d p.2.2 0])
  else none
 | .makeFunc (.func f) first caps=>if first.size.beq 0 then (caps.toList.mapM fun c=>(st.get c).one?).bind fun rs=>put (.fn f rs) else none
 | .extract x i=>match st.get x with
  | .tup vs=>(vs[i]?).bind fun (ag,cs)=>put (.v ag cs)
  | _=>none
 | .call c=>match c.callee with
  | .builtin .len=>match c.args.toList.map st.get with
   | [.v false [.im _ (.sc (.string s))]]=>(match (c.argTypes[0]?).bind P.underlying with | some .string=>val (.int .i64 s.size) | _=>none)
   | [.v false [r]]=>(match (c.argTypes[0]?).bind P.underlying with | some (.slice _)=>(st.len r).bind fun n=>val (.int .i64 n) | _=>none)
   | _=>none
  | .builtin .min=>(Ee min2 (c.args.toList.map st.get)).bind val
  | .builtin .max=>(Ee max2 (c.args.toList.map st.get)).bind val
  | .builtin .append=>at_ fun d=>((c.argTypes[0]?).bind (oG P)).bind fun (e,sz)=>(zeroCells P e).bind fun zs=>if !zs.length.beq sz then none else match c.args.toList.map st.get,(c.argTypes[1]?).bind P.underlying with
   | [.v false [x],.v false [y]],some (.slice _) | [.v false [x],.v false [y]],some .string=>st.append d ((fC P e).getD []) sz (P.bytesOf e) x y
   | _,_=>none
  | .builtin _=>none
  | .value g=>match st.get g with
   | .fn f caps=>if c.argTypes.size.beq c.args.size&&F5 nt o.dst then
    st.call P cfg aY o.dst f ((c.argTypes.toList.zip (c.args.toList.map st.get))++caps.map fun r=>(0,SV.v false [r])) else none
   | .v false [.im t (.clo f cs)]=>if c.argTypes.size.beq c.args.size&&F5 nt o.dst then
    st.call P cfg aY o.dst f ((c.argTypes.toList.zip (c.args.toList.map st.get))++cs.map fun a=>(0,SV.im t a)) else none
   | _=>none
  | _=>none
 | _=>none
def St.UJ (st:St) (k:Option Nat) (r:RV):RV×St:=
 match r with
 | .nil=>match k with
  | some sz=>(.im 0 (.row sz []),st)
  | none=>(.nil,st)
 | r=>match st.fix 0 r with
  | some x=>(.im x.1 x.2.1,x.2.2)
  | none=>(r,st)
def St.Gx (st:St) (ks:List (Option Nat)):List RV→List RV×St
 | []=>([],st)
 | r::rs=>((st.UJ (ks.head?.bind id) r).1::(St.Gx (st.UJ (ks.head?.bind id) r).2 ks.tail rs).1,(St.Gx (st.UJ (ks.head?.bind id) r).2 ks.tail rs).2)
def St.WH (st:St):List (Bool×List RV)→List (Bool×List RV)×St
 | []=>([],st)
 | x::xs=>((x.1,(st.Gx [] x.2).1)::(St.WH (st.Gx [] x.2).2 xs).1,(St.WH (st.Gx [] x.2).2 xs).2)
def St.vV (st:St) (ks:List (Option Nat)) (d:Nat):St:=
 match st.sl d with
 | .v ag rs=>(st.Gx ks rs).2.cZ d (.v ag (st.Gx ks rs).1)
 | .tup vs=>(st.WH vs).2.cZ d (.tup (st.WH vs).1)
 | _=>st
def yields (ops:Array Oper) (st:St) (j:Nat):Option (Option Bool):=
 match (ops[j]?).bind (·.dst) with
 | none=>some none
 | some d=>match st.sl d with
  | .tup []=>some none
  | x=>x.bool?.map some
def oV (f nt:Nat) (ops:Array Oper) (i:Nat) (st:St):Option St:=
 match ops[i]? with
 | none=>some st
 | some o=>
  let go:Option St:=(aH P cfg aY nt o st).map fun st=>match o.dst with | some d=>bif (cfg.fc f).frz.any (·.beq d) then st.vV ((fC P o.type).getD []) d else st | none=>st
  match o.guard with
  | none=>go
  | some (j,want)=>(yields ops st j).bind fun y=>if y=some want then go else match o.dst with | none=>some st | some d=>if Nat.blt d nt then some (st.cZ d (.tup [])) else none
def KH (f nt:Nat) (ops:Array Oper):List Nat→St→Option St
 | [],st=>some st
 | i::r,st=>(oV P cfg aY f nt ops i st).bind (KH f nt ops r)
end ops
def F7 (st:St) (os:List Nat) (r:RV):RV:=
 let ok (o s:Nat):Bool:=os.any (·.beq o)&&match st.L o with | some ob=>ob.gen.beq s | none=>false
 let okc (o s c:Nat):Bool:=os.any (·.beq o)&&match st.cell o s c with | some _=>true | none=>false
 match r with
 | .own o s c=>bif okc o s c then .own o 0 c else .qC
 | .sub o s c lo hi=>bif okc o s c then .sub o 0 c lo hi else .qC
 | .mp o s off=>bif ok o s then .mp o 0 off else .qC
 | .mpe o s c i off=>bif okc o s c then .mpe o 0 c i off else .qC
 | .inr ..=> .qC
 | .im t a=> .im (dm t a) a
 | r=>r
def ac8 (st:St) (os:List Nat):SV→SV
 | .v ag cs=> .v ag (cs.map (F7 st os))
 | .fn f cs=> .fn f (cs.map (F7 st os))
 | .tup vs=> .tup (vs.map fun v=>(v.1,v.2.map (F7 st os)))
def Cell.clean (x:Cell):Cell:=
 match x with
 | ⟨.gone,_,_,_⟩=>⟨.gone,0,0,.sc (.bool false)⟩
 | ⟨.dd ..,_,_,_⟩=>⟨.gone,0,0,.sc (.bool false)⟩
 | ⟨.dp _,_,t,a⟩=>⟨.dp 0,0,t,a⟩
 | ⟨m,_,t,a⟩=>⟨m,0,t,a⟩
def St.norm (st:St) (k:List Nat×List Nat):St:=
 {sl:=look .qC (k.1.map fun t=>(t,ac8 st k.2 (st.sl t)))
  L:=look none (k.2.map fun o=>(o,(st.L o).map fun ob=>{ob with gen:=0,ctr:=0,cs:=ob.cs.map Cell.clean}))}
def St.xR (st:St):Option (List Nat×List Nat)→St
 | none=>st
 | some k=>st.norm k
inductive Ex where
 | normal | exit (id:Nat) | ret
 deriving DecidableEq,Inhabited
def Bi (step:St→Option (Ex×St)) (k:List Nat×List Nat):Nat→St→Option (Ex×St)
 | 0,_=>none
 | n+1,st=>(step (st.norm k)).bind fun p=>match p.1 with | .normal=>Bi step k n p.2 | e=>some (e,p.2)
def tV:Code→Nat
 | .region id _ _=>id
 | .seq a _=>tV a
 | .block _ c | .loop c | .scope c=>tV c
 | _=>0
def Sch.ac9:Sch→Bool
 | .stop=>true
 | _=>false
def RV.ai7 :RV→Option Nat
 | .own o _ _ | .sub o _ _ _ _ | .mp o _ _ | .mpe o _ _ _ _ | .inr o _ _ _ _ _=>some o
 | _=>none
def SV.iJ:SV→List Nat
 | .v _ cs | .fn _ cs=>cs.filterMap RV.ai7
 | .tup vs=>vs.flatMap fun v=>v.2.filterMap RV.ai7
def BZ:Op→Bool
 | .move _ | .pick .. | .load .. | .nilCheck _ | .binOp .. | .unOp .. | .fieldAddr .. | .indexAddr .. | .extract .. | .field .. | .index ..=>true
 | .call c=>match c.callee with | .builtin .len=>true | _=>false
 | _=>false
section code
open Classical
variable (P:Program) (cfg:Cfg) (aY:FuncId→List Arg→Option (Res×List Out)) (f nt:Nat)
def PI (o:Oper):Bool:=
 BZ o.op||match o.op with
  | .alloc _=>true
  | .makeSlice ..=>true
  | .call c=>match c.callee with
   | .value (.func g)=>(List.range c.args.size).all fun j=>match cfg.par g j with | .cst false=>true | .cut _=>true | _=>false
   | _=>false
  | _=>false
def BB (l:List Nat) (ops:List Oper):Bool:=l.isEmpty||ops.all fun o=>match o.dst with | some d=>!l.any (·.beq d) | none=>true
def watch:Op→List Operand
 | .move _=>[]
 | .pick ..=>[]
 | .extract ..=>[]
 | .field ..=>[]
 | o=>o.operands.toList
def xU (ops:Array Oper) (us:List Nat) (i:Nat) (st:St):Bool:=
 BB (cfg.fc f).frz ops.toList&&match ops[i]? with
 | some o=>((watch o.op).flatMap fun x=>(st.get x).iJ).isEmpty||us.all fun j=>match ops[j]? with
  | some oj=>PI cfg oj&&match oj.dst with | some d=>((watch o.op).flatMap fun x=>(st.get x).iJ).all fun b=>!b.beq d | none=>true
  | none=>false
 | none=>false
def ZK (st s:St):List Nat→Prop
 | []=>True
 | b::O=>s.L b=st.L b∧ZK st s O
def kOK:List (List Nat×List Nat)→Nat→St→St→Prop
 | [],_,_,_=>True
 | (us,O)::κ,i,st,s=>(us.contains i=true→ZK st s O)∧kOK κ i st s
def Me (ops:Array Oper) (i:Nat) (st:St):List Nat:=match ops[i]? with | some o=>(watch o.op).flatMap fun x=>(st.get x).iJ | none=>[]
noncomputable def gp (ops:Array Oper) (k:Option (List Nat×List Nat)):List (List Nat×List Nat)→Sch→St→Option St
 | _,.done,st=>some (st.xR k)
 | κ,.first i _ us t,st=>if xU cfg f ops us i st then (oV P cfg aY f nt ops i st).bind (gp ops k κ t) else
  if BB (cfg.fc f).frz ops.toList then (oV P cfg aY f nt ops i st).bind (gp ops k ((us,Me ops i st)::κ) t) else none
 | κ,.fork i t r,st=>(oV P cfg aY f nt ops i st).bind fun s=>if kOK κ i st s∧(r.ac9∨gp ops k κ r st=gp ops k κ t s) then gp ops k κ t s else none
 | _,.stop,_=>none
noncomputable def dL (n:Nat):Code→St→Option (Ex×St)
 | .skip,st=>some (.normal,st)
 | .region id ops false,st=>(KH P cfg aY f nt ops (List.range ops.size) ((st.shut ((cfg.fc f).shut.any (·.beq id))).xR (look none (cfg.fc f).inn id))).map fun st=>(.normal,st.xR (look none (cfg.fc f).out id))
 | .region id ops true,st=>(gp P cfg aY f nt ops (look none (cfg.fc f).out id) [] (look .stop (cfg.fc f).sch id) ((st.shut ((cfg.fc f).shut.any (·.beq id))).xR (look none (cfg.fc f).inn id))).map fun st=>(.normal,st)
 | .seq a b,st=>(dL n a st).bind fun p=>match p.1 with | .normal=>dL n b p.2 | e=>some (e,p.2)
 | .cond c a b,st=>(st.get c).bool?.bind fun t=>bif t then dL n a st else dL n b st
 | .block id c,st=>(dL n c st).map fun p=>(match p.1 with | .exit i=>if i.beq id then .normal else .exit i | e=>e,p.2)
 | .loop c,st=>Bi (dL n c) (look ([],[]) (cfg.fc f).aO (tV c)) n st
 | .exit id,st=>some (.exit id,st)
 | .ret,st=>some (.ret,st)
 | _,_=>none
end code
section func
variable (P:Program) (cfg:Cfg)
def y9 (j:Nat):Arg→SV×Option Obj
 | .im t ag cs=>(.v ag (cs.map (.im t)),none)
 | .ptr ag cs=>(.v false [.mp j 0 0],some {gen:=0,ctr:=0,io:=true,mem:=true,fz:=false,ag,cs:=cs.map fun x=>⟨x.1.get,0,(match x.1 with | .imm=>dm 1 x.2 | _=>0),x.2⟩})
 | .mv sz es=>(.v false [.own j 0 0],some {gen:=0,ctr:=0,io:=false,mem:=false,fz:=false,ag:=false,cs:=[⟨.sh,0,0,.row sz es⟩]})
 | .mvs cs=>(.v true (uV j 0 (cs.map fun x=>⟨x.1,0,0,x.2⟩)),some {gen:=0,ctr:=0,io:=false,mem:=false,fz:=false,ag:=true,cs:=cs.map fun x=>⟨x.1,0,0,x.2⟩})
 | .ws ag cs=>(.v ag (cs.map .ws),none)
 | .ow sz es=>(.v false [.own j 0 0],some {gen:=0,ctr:=0,io:=true,mem:=false,fz:=false,ag:=false,cs:=[⟨.sh,0,0,.row sz es⟩]})
def entry (args:List Arg):St:=
 let l:=args.zipIdx.map fun p=>(p.2,y9 p.2 p.1)
 {sl:=look .qC (l.map fun p=>(p.1,p.2.1)),L:=look none (l.map fun p=>(p.1,p.2.2))}
def Gy (cs:List Cell):Option (List CV):=
 if cs.all (fun x=>match x.m with | .imm | .sh=>true | _=>false) then some (cs.map fun x=>⟨x.m,dm x.t x.a,x.a⟩) else none
def St.Gz (st:St) (ks:List (Option Nat)):List RV→Option (List PC×St)
 | []=>some ([],st)
 | r::rs=>(st.take ((ks.head?.bind id).getD 0) r).bind fun x=>
  (match x.1.m,x.1.a with | .sh,.row sz es=>some (PC.ow x.1.t sz es) | .imm,a=>some (PC.im x.1.t a) | _,_=>none).bind fun c=>
    (St.Gz x.2 ks.tail rs).map fun (y:List PC×St)=>(c::y.1,y.2)
def St.GG (st:St):ResultVar×TypeId→Option SV
 | (.tmp t,_)=>some (st.sl t)
 | (.cell a ty,_)=>(fC P ty).bind fun _=>(st.get (.tmp a)).one?.bind fun r=>st.load (fJ P ty) (if fJ P ty then P.cellsOf ty else 1) r
def St.results (st:St):List (ResultVar×TypeId)→Option (Res×St)
 | []=>some ([],st)
 | x::rs=>(st.GG P x).bind fun
  | .v ag cs=>(st.Gz ((fC P x.2).getD []) cs).bind fun p=>(St.results p.2 rs).map fun (q:Res×St)=>((ag,p.1)::q.1,q.2)
  | _=>none
def St.MB (st:St) (x:ResultVar×TypeId):Option (Bool×List CV):=
 match st.GG P x with
 | some (.v false [.mp o s 0])=>(st.obj o s).bind fun ob=>if ob.mem&&!ob.fz&&!ob.io then (Gy ob.cs).map fun cs=>(ob.ag,cs) else none
 | _=>none
def ai8:Nat→List Cell→List Nat
 | _,[]=>[]
 | c,⟨.dp _,_,_,_⟩::r=>c::ai8 (c+1) r
 | c,_::r=>ai8 (c+1) r
def St.UK (st:St):Option SV→Option St
 | some (.v false [.mp o s 0])=>(st.obj o s).bind fun ob=>match ai8 0 ob.cs with
  | []=>none
  | l=>some (st.setObj o (ob.lD l))
 | _=>none
def St.ret (st:St) (l:List (ResultVar×TypeId)):Option (Res×St):=
 match l with
 | [x]=>match st.MB P x with
  | some p=>some ([(false,[.pt p.1 p.2])],st)
  | none=>match st.UK (st.GG P x) with
   | some st'=>(st'.MB P x).map fun p=>([(false,[.pt p.1 p.2])],st')
   | none=>st.results P [x]
 | l=>st.results P l
def St.jG (st:St) (f:FuncId):Nat→List Arg→St
 | _,[]=>st
 | j,.ptr _ _::as=>match cfg.par f j,st.L j with
  | .ptr ms,some ob=>if ob.io&&ob.mem&&!ob.fz then St.jG (st.setObj j (ob.lD (PG 0 ms))) f (j+1) as else St.jG st f (j+1) as
  | _,_=>St.jG st f (j+1) as
 | j,_::as=>St.jG st f (j+1) as
def vY (st:St) (f:FuncId):Nat→List Arg→Option (List Out)
 | _,[]=>some []
 | j,.im ..::as | j,.mv ..::as | j,.mvs ..::as | j,.ws ..::as=>vY st f (j+1) as
 | j,.ptr ag _::as=>(st.L j).bind fun ob=>if ob.io&&ob.mem&&!ob.fz then
  (match cfg.par f j with | .ptr ms=>fits ms ob.cs | _=>none).bind fun p=>if Nat.ble p.2 1 then (vY st f (j+1) as).map (.ptr ag p.1::·) else none else none
 | j,.ow ..::as=>(st.L j).bind fun ob=>if ob.io&&!ob.mem&&!ob.fz then
  match ob.cs with | [⟨.sh,_,0,.row sz es⟩]=>(vY st f (j+1) as).map (.ow sz es::·) | _=>none else none
noncomputable def EL (aY:FuncId→List Arg→Option (Res×List Out)) (n:Nat) (f:FuncId) (fn:Func) (args:List Arg):Option (Res×List Out):=
 if !Nat.ble args.length fn.ntmps then none else
 fn.body.bind fun c=>(dL P cfg aY f fn.ntmps n c (entry args)).bind fun p=>match p.1 with
  | .exit _=>none
  | _=>(if fn.results.size.beq fn.resultTypes.size then p.2.ret P (fn.results.toList.zip fn.resultTypes.toList) else none).bind fun q=>(vY cfg (q.2.jG cfg f 0 args) f 0 args).map fun outs=>(q.1,outs)
noncomputable def evF:Nat→FuncId→List Arg→Option (Res×List Out)
 | 0,_,_=>none
 | n+1,f,args=>match cfg.ext f with
  | some g=>g args
  | none=>if cfg.on f then (P.funcs[f]?).bind fun fn=>EL P cfg (evF n) n f fn args else none
end func
end Go.Sim
