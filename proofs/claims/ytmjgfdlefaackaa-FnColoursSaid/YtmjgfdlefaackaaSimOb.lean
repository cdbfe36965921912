/- Operations that only read may be taken first. Conditions: none. -/
import Derived.Test.YtmjgfdlefaackaaSimO
namespace Go.Sim
set_option linter.unusedSimpArgs false
set_option linter.unusedVariables false
def St.ws (st:St) (g:Nat→SV):St:={st with sl:=g}
section
variable {st:St} {g:Nat→SV}
theorem nG (o s c:Nat):(st.ws g).cell o s c=st.cell o s c:=rfl
theorem CW (o s:Nat):(st.ws g).obj o s=st.obj o s:=rfl
theorem Ak (o:Nat) (ob:Obj):(st.ws g).setObj o ob=(st.setObj o ob).ws g:=rfl
theorem Ko (sz:Nat) (r:RV):(st.ws g).view sz r=st.view sz r:=by cases r<;>rfl
theorem Ny (sz:Nat) (r:RV):(st.ws g).GX sz r=st.GX sz r:=by cases r<;>rfl
theorem LJ (r:RV):(st.ws g).freeze r=(st.freeze r).ws g:=by
 cases r with
 | own o s c=>simp only [St.freeze,nG];split<;>rfl
 | sub o s c lo hi=>simp only [St.freeze,nG];split<;>rfl
 | mpe o s c i off=>simp only [St.freeze,nG];split<;>rfl
 | mp o s off=>simp only [St.freeze,CW];split<;>rfl
 | _=>rfl
theorem Jl (sz:Nat) (r:RV):(st.ws g).fix sz r=(st.fix sz r).map fun p=>(p.1,p.2.1,p.2.2.ws g):=by
 simp only [St.fix,Ko,LJ,Option.map_map]
 rfl
theorem bP {α β γ:Type} (o:Option α) (f:α→β) (k:β→Option γ):(o.map f).bind k=o.bind fun x=>k (f x):=by cases o<;>rfl
theorem ak {α β γ:Type} (o:Option α) (f:β→γ) (k:α→Option β):(o.bind k).map f=o.bind fun x=>(k x).map f:=by cases o<;>rfl
theorem uT:∀(ks:List (Option Nat)) (rs:List RV) {st:St},(st.ws g).eX ks rs=(st.eX ks rs).map fun p=>(p.1,p.2.1,p.2.2.ws g)
 | ks,[],st=>rfl
 | ks,r::rs,st=>by
  simp only [St.eX,Jl,bP,ak]
  congr 1
  funext p
  rw [uT ks.tail rs]
  simp only [Option.map_map]
  rfl
theorem lV (sz:Nat) (r:RV):(st.ws g).take sz r=(st.take sz r).map fun p=>(p.1,p.2.ws g):=by
 cases r with
 | im t a=>rfl
 | nil=>rfl
 | jK=>rfl
 | fr a=>rfl
 | ws a=>rfl
 | own o s c=>
  simp only [St.take,nG]
  cases st.cell o s c with
  | none=>rfl
  | some p=>obtain ⟨ob,⟨m,s',t,a⟩⟩:=p;cases m<;>rfl
 | sub o s c lo hi=>
  simp only [St.take,nG]
  cases st.cell o s c with
  | none=>rfl
  | some p=>obtain ⟨ob,⟨m,s',t,a⟩⟩:=p;cases m<;>cases a<;>rfl
 | mp o s off=>simp only [St.take,Jl,Option.map_map];rfl
 | mpe o s c i off=>simp only [St.take,Jl,Option.map_map];rfl
 | inr o s c i j n=>
  simp only [St.take,nG]
  cases st.cell o s c with
  | none=>rfl
  | some p=>
   obtain ⟨ob,⟨m,s',t,a⟩⟩:=p
   cases m with
   | dp n'=>
    cases a with
    | row z es=>
     simp only [Option.bind_some]
     split
     ·simp only [ak]
      congr 1
      funext e
      split<;>rfl
     ·rfl
    | _=>rfl
   | _=>rfl
theorem pz:∀(ks:List (Option Nat)) (rs:List RV) {st:St},(st.ws g).dK ks rs=(st.dK ks rs).map fun p=>(p.1,p.2.ws g)
 | ks,[],st=>rfl
 | ks,r::rs,st=>by
  simp only [St.dK,lV,bP,ak]
  congr 1
  funext p
  rw [pz ks.tail rs]
  simp only [Option.map_map]
  rfl
theorem EG (d:Nat) (mem ag:Bool) (cs:List CV):(st.ws g).newObj d mem ag cs=((st.newObj d mem ag cs).1.ws g,(st.newObj d mem ag cs).2):=rfl
theorem P5 (ag:Bool) (n:Nat) (x:RV):(st.ws g).load ag n x=st.load ag n x:=by cases x<;>rfl
theorem F5 (x:RV):(st.ws g).mW x=st.mW x:=by cases x<;>rfl
theorem Jm (x:RV):(st.ws g).len x=st.len x:=by cases x<;>rfl
theorem Hw (n:Nat) (x:RV):(st.ws g).shift n x=st.shift n x:=by simp only [St.shift,F5]
theorem Hy (sz i:Nat) (x:RV):(st.ws g).fB sz x i=st.fB sz x i:=by cases x<;>rfl
theorem Jn (sz:Nat) (x:RV) (lo hi:Option Int):(st.ws g).reslice sz x lo hi=st.reslice sz x lo hi:=by
 unfold St.reslice
 simp only [Jm]
 cases x<;>rfl
theorem P6 (x:RV):(st.ws g).FM x=st.FM x:=by cases x<;>rfl
theorem P7 (o s c:Nat):(st.ws g).yz o s c=st.yz o s c:=rfl
theorem Hz (sz:Nat) (x:RV):(st.ws g).elems sz x=st.elems sz x:=by simp only [St.elems,Ko,P6]
theorem Nz (ty:Option TypeDesc) (op:BinOp) (x y:SV):binop (st.ws g) ty op x y=binop st ty op x y:=by
 have e:(st.ws g).mW =st.mW :=funext fun r=>F5 r
 unfold binop
 rw [e]
theorem LM {P:Program} (t:TypeId) (op:BinOp) (x y:SV):sG P (st.ws g) t op x y=sG P st t op x y:=by
 unfold sG
 split
 ·rfl
 ·rw [Nz]
theorem NC (r:RV):(st.ws g).alive r=st.alive r:=by cases r<;>simp only [St.alive,F5,Jm,nG]<;>rfl
theorem yu (pl:List (Nat×Nat)):∀(xs:List (Nat×SV)) (cs:List RV),jV (st.ws g) pl cs xs=jV st pl cs xs
 | [],cs=>rfl
 | (i,.v ag rs)::r,cs=>by
  have e:(st.ws g).alive=st.alive:=funext fun r=>NC r
  simp only [jV,e]
  congr 1
  funext p
  split
  ·exact yu pl r _
  ·rfl
 | (i,.fn _ _)::r,cs=>rfl
 | (i,.tup _)::r,cs=>rfl
theorem HY (ag:Bool) (ks:List (Option Nat)) (sz:Nat):∀(xs:List (Nat×SV)) (k:Nat) {st:St},(st.ws g).parts ag ks sz k xs=(st.parts ag ks sz k xs).map fun p=>(p.1,p.2.1,p.2.2.ws g)
 | [],k,st=>rfl
 | (i,.v ag' cs)::r,k,st=>by
  simp only [St.parts]
  split
  ·simp only [uT,bP,ak]
   congr 1
   funext p
   congr 1
   funext e
   rw [HY ag ks sz r (k+1)]
   simp only [Option.map_map]
   rfl
  ·rfl
 | (i,.fn _ _)::r,k,st=>rfl
 | (i,.tup _)::r,k,st=>rfl
theorem ND (ks:List (Option Nat)) (x:RV) (cs:List RV):(st.ws g).store ks x cs=(st.store ks x cs).map (·.ws g):=by
 cases x with
 | mp o s off=>
  simp only [St.store,pz,bP,ak]
  congr 1
  funext p
  simp only [CW]
  cases p.2.obj o s with
  | none=>rfl
  | some ob=>simp only [Option.bind_some];split<;>rfl
 | mpe o s c i off=>
  simp only [St.store,P7]
  by_cases hd:st.yz o s c=true
  ·simp only [if_pos hd,pz,bP,ak]
   congr 1
   funext p
   simp only [nG]
   cases p.2.cell o s c with
   | none=>rfl
   | some q=>
    obtain ⟨ob,⟨m,s',t',a⟩⟩:=q
    cases m with
    | dd n i' j=>
     cases a with
     | row sz es=>
      simp only [Option.bind_some]
      split
      ·split
       ·simp only [ak,Option.map_map];rfl
       ·rfl
      ·rfl
     | _=>rfl
    | _=>rfl
  ·simp only [if_neg hd,uT,bP,ak]
   congr 1
   funext p
   simp only [nG]
   cases p.2.2.cell o s c with
   | none=>rfl
   | some q=>
    obtain ⟨ob,⟨m,s',t',a⟩⟩:=q
    cases m<;>cases a<;>first | rfl | (simp only [Option.bind_some,ak,Option.map_map];rfl)
 | ws a=>
  cases a with
  | cp as off=>
   simp only [St.store]
   split<;>rfl
  | _=>rfl
 | _=>rfl
theorem CX:∀(ks:List (Option Nat)) (rs:List RV),kR (st.ws g) ks rs=kR st ks rs
 | ks,[]=>rfl
 | ks,r::rs=>by simp only [kR,Ny,CX ks.tail rs]
section
variable {P:Program} {cfg:Cfg} {c:FuncId→List Arg→Option (Res×List Out)}
theorem P8 (m:PM) (ks:List (Option Nat)) (x:SV):(st.ws g).yC m ks x=(st.yC m ks x).map fun p=>(p.1,p.2.ws g):=by
 unfold St.yC
 split
 ·simp only [uT,bP,ak]
  congr 1
  funext p
  split<;>rfl
 ·simp only [lV,bP,ak]
  congr 1
  funext p
  split
  ·rfl
  ·split<;>rfl
 ·simp only [pz,bP,ak]
  congr 1
  funext p
  split<;>rfl
 ·simp only [CW]
  rename_i o s
  cases st.obj o s with
  | none=>rfl
  | some ob=>simp only [Option.bind_some];split<;>rfl
 ·rfl
theorem CY (f:FuncId):∀(xs:List (TypeId×SV)) (j:Nat) {st:St},(st.ws g).lQ P cfg f j xs=(st.lQ P cfg f j xs).map fun p=>(p.1,p.2.ws g)
 | [],j,st=>rfl
 | (t,x)::xs,j,st=>by
  simp only [St.lQ,P8,bP,ak]
  congr 1
  funext p
  rw [CY f xs (j+1)]
  simp only [Option.map_map]
  rfl
theorem Tm (m:PM) (ks:List (Option Nat)) (x:SV) (a:Option Arg):(st.ws g).see m ks x a=st.see m ks x a:=by
 cases a with
 | some a=>rfl
 | none=>unfold St.see;simp only [CX,CW,nG]
theorem EH (f:FuncId):∀(xs:List (TypeId×SV)) (as:List (Option Arg)) (j:Nat),(st.ws g).lg P cfg f j xs as=st.lg P cfg f j xs as
 | [],[],j=>rfl
 | [],_::_,j=>rfl
 | (t,x)::xs,[],j=>rfl
 | (t,x)::xs,a::as,j=>by simp only [St.lg,Tm,EH f xs as (j+1)]
theorem yJ (t:Nat):∀(ls:List (Nat×Nat×Nat)) (os:List Out) {st:St},iy (st.ws g) t ls os=(iy st t ls os).map (·.ws g)
 | [],[],st=>rfl
 | [],_::_,st=>rfl
 | (o,s,c)::ls,[],st=>rfl
 | (o,s,c)::ls,.ptr ag cs::os,st=>by
  simp only [iy,CW,ak,Ak]
  congr 1
  funext ob
  exact yJ t ls os
 | (o,s,c)::ls,.ow sz es::os,st=>by
  simp only [iy,nG,ak,Ak]
  congr 1
  funext ob
  split
  ·exact yJ t ls os
  ·rfl
def fQ (dst:Option Tmp) (g:Nat→SV) (s:St):St:=s.ws (match dst with | some d=>upd g d (s.sl d) | none=>g)
theorem oC {d:Nat} {v:SV}:fQ (some d) g (st.aK d v)=(st.ws g).aK d v:=by
 simp only [fQ,St.aK,St.ws,upd_same]
theorem NF {dst:Option Tmp} {nt:Nat} {v:SV}:(match dst with | none=>some (st.ws g) | some d=>if Nat.blt d nt then some ((st.ws g).aK d v) else none)=
 ((match dst with | none=>some st | some d=>if Nat.blt d nt then some (st.aK d v) else none):Option St).map (fQ dst g):=by
 cases dst with
 | none=>rfl
 | some d=>
  simp only
  split
  ·simp only [Option.map_some,oC]
  ·rfl
theorem lW {d:Nat} {mem ag:Bool} {cs:List CV} {f:Nat×Nat→SV}:((st.ws g).newObj d mem ag cs).1.aK d (f ((st.ws g).newObj d mem ag cs).2)=fQ (some d) g ((st.newObj d mem ag cs).1.aK d (f (st.newObj d mem ag cs).2)):=by
 rw [EG,oC]
theorem LP {d sz:Nat} {x:SV}:(st.ws g).assign d sz x=(st.assign d sz x).map (fQ (some d) g):=by
 have go:∀r:RV,(((st.ws g).take sz r).map fun (x,st)=>
  match x.m with
  | .sh=>(st.newObj d false false [x]).1.aK d (.v false [.own d (st.newObj d false false [x]).2.2 0])
  | .dp _=>(st.newObj d false false [x]).1.aK d (.v false [.own d (st.newObj d false false [x]).2.2 0])
  | .ws=>st.aK d (.v false [.ws x.a])
  | .fr=>st.aK d (.v false [.fr x.a])
  | _=>st.aK d (.im x.t x.a))=((st.take sz r).map fun (x,st)=>
  match x.m with
  | .sh=>(st.newObj d false false [x]).1.aK d (.v false [.own d (st.newObj d false false [x]).2.2 0])
  | .dp _=>(st.newObj d false false [x]).1.aK d (.v false [.own d (st.newObj d false false [x]).2.2 0])
  | .ws=>st.aK d (.v false [.ws x.a])
  | .fr=>st.aK d (.v false [.fr x.a])
  | _=>st.aK d (.im x.t x.a)).map (fQ (some d) g):=by
  intro r
  rw [lV]
  cases st.take sz r with
  | none=>rfl
  | some p=>
   obtain ⟨⟨m,t,a⟩,s⟩:=p
   simp only [Option.map_some,Option.some.injEq]
   cases m<;>first | exact lW (f:=fun p=> .v false [.own d p.2 0]) | exact oC.symm
 unfold St.assign
 split
 ·split
  ·simp only [Option.map_some,oC]
  ·exact go _
 ·exact go _
 ·exact go _
 ·simp only [Option.map_some,oC]
theorem Jo (d:Nat) (cs:List CV):(st.ws g).uk d cs=(st.uk d cs).ws g:=by cases cs<;>rfl
theorem EI {dst:Option Tmp} {mt:Nat→Option Nat} {res:Res}:(st.ws g).unpack dst mt res=(st.unpack dst mt res).map (fQ dst g):=by
 cases dst with
 | none=>rfl
 | some d=>
  unfold St.unpack
  simp only
  split
  ·simp only [Option.map_map]
   congr 1
   funext cs
   exact lW (f:=fun p=> .v false [.mp d p.1 0])
  ·simp only [Option.map_map]
   have e:(st.ws g).kS d=st.kS d:=rfl
   rw [e]
   congr 1
   funext q
   simp only [Function.comp,Jo,oC]
theorem zy {P:Program} {cfg:Cfg} {c:FuncId→List Arg→Option (Res×List Out)} {dst:Option Tmp} {f:FuncId} {xs:List (TypeId×SV)}:(st.ws g).mM P cfg c dst f xs=(st.mM P cfg c dst f xs).map (fQ dst g):=by
 unfold St.mM
 simp only [CY,bP,ak]
 congr 1
 funext pre
 simp only [EH]
 congr 1
 funext p
 split
 ·rfl
 ·simp only [ak]
  congr 1
  funext r
  split
  ·simp only [bP,ak]
   congr 1
   funext s
   exact EI
  split
  ·simp only [ak]
   congr 1
   funext q
   cases dst with
   | none=>rfl
   | some d=>simp only [Option.map_some,oC]
  ·simp only [yJ,bP,ak]
   congr 1
   funext s
   exact EI
theorem yK {P:Program} {cfg:Cfg} {c:FuncId→List Arg→Option (Res×List Out)} {d:Nat} {f:FuncId} {o s cc i j n:Nat}:(st.ws g).lS P cfg c d f o s cc i j n=(st.lS P cfg c d f o s cc i j n).map (fQ (some d) g):=by
 unfold St.lS
 simp only [lV,bP,ak]
 congr 1
 funext q
 obtain ⟨⟨m,t,a⟩,s1⟩:=q
 cases m<;>cases a<;>first | rfl | skip
 simp only [EG,zy,bP,ak]
 congr 1
 funext st2
 have e:fQ none g st2=st2.ws g:=rfl
 simp only [e,lV,bP,ak]
 congr 1
 funext y
 obtain ⟨⟨m,t,a⟩,s2⟩:=y
 cases m<;>cases a<;>first | rfl | skip
 simp only [nG,ak]
 congr 1
 funext x
 obtain ⟨ob,m,s',t',a⟩:=x
 cases m<;>cases a<;>first | rfl | skip
 simp only
 split
 ·simp only [ak]
  congr 1
  funext e
  simp only [Option.map_map]
  congr 1
  funext e'
  simp only [Function.comp,oC,Ak]
 ·rfl
theorem Kq {P:Program} {cfg:Cfg} {c:FuncId→List Arg→Option (Res×List Out)} {dst:Option Tmp} {f:FuncId} {xs:List (TypeId×SV)}:(st.ws g).call P cfg c dst f xs=(st.call P cfg c dst f xs).map (fQ dst g):=by
 unfold St.call
 rw [zy,Option.map_or]
 congr 1
 split
 ·exact yK
 ·rfl
theorem Jp {d:Nat} {ks:List (Option Nat)} {sz b:Nat} {x y:RV}:(st.ws g).rM d ks sz b x y=(st.rM d ks sz b x y).map (fQ (some d) g):=by
 unfold St.rM
 simp only [Hz,ak]
 congr 1
 funext p
 obtain ⟨ty,ys⟩:=p
 simp only
 have fin:∀(t:Nat) (es:List AV) (st:St),(if room (es.length+ys.length) b then some (((st.ws g).newObj d false false [⟨.sh,Nat.max t (aY ks ty ys),.row sz (es++ys)⟩]).1.aK d (.v false [.own d ((st.ws g).newObj d false false [⟨.sh,Nat.max t (aY ks ty ys),.row sz (es++ys)⟩]).2.2 0])) else none:Option St)=
  (if room (es.length+ys.length) b then some ((st.newObj d false false [⟨.sh,Nat.max t (aY ks ty ys),.row sz (es++ys)⟩]).1.aK d (.v false [.own d (st.newObj d false false [⟨.sh,Nat.max t (aY ks ty ys),.row sz (es++ys)⟩]).2.2 0])) else none:Option St).map (fQ (some d) g):=by
  intro t es st
  split
  ·simp only [Option.map_some,Option.some.injEq]
   exact lW (f:=fun p=> .v false [.own d p.2 0])
  ·rfl
 cases x with
 | nil=>exact fin 0 [] st
 | own o s c'=>
  simp only [lV,bP,ak]
  congr 1
  funext q
  obtain ⟨⟨m,t,a⟩,s'⟩:=q
  cases m<;>cases a<;>first | rfl | (simp only;split<;>first | exact fin _ _ _ | rfl)
 | sub o s c' lo hi=>
  cases lo with
  | zero=>
   simp only [lV,bP,ak]
   congr 1
   funext q
   obtain ⟨⟨m,t,a⟩,s'⟩:=q
   cases m<;>cases a<;>first | rfl | (simp only;split<;>first | exact fin _ _ _ | rfl)
  | succ n=>rfl
 | inr o s c' i j n=>
  simp only [lV,bP,ak]
  congr 1
  funext q
  obtain ⟨⟨m,t,a⟩,s'⟩:=q
  cases m<;>cases a<;>first | rfl | (simp only;split<;>first | exact fin _ _ _ | rfl)
 | _=>rfl
theorem Jq {d sz b:Nat} {x y:RV}:(st.ws g).xR d sz b x y=(st.xR d sz b x y).map (fQ (some d) g):=by
 unfold St.xR
 simp only [lV,bP,ak]
 congr 1
 funext p
 obtain ⟨⟨m,t,a⟩,s'⟩:=p
 cases m<;>cases a<;>first | rfl | skip
 simp only [lV,bP,ak]
 congr 1
 funext q
 obtain ⟨⟨m2,t2,a2⟩,s2⟩:=q
 cases m2<;>cases a2<;>first | rfl | skip
 simp only
 split
 ·simp only [Option.map_some,Option.some.injEq]
  exact lW (f:=fun p=> .v false [.own d p.2 0])
 ·rfl
theorem EJ {d:Nat} {ks:List (Option Nat)} {sz b:Nat} {x y:RV}:(st.ws g).append d ks sz b x y=(st.append d ks sz b x y).map (fQ (some d) g):=by
 unfold St.append
 rw [Jp,Jq,Option.map_or]
theorem Jr {d sz:Nat} {ks:List (Option Nat)} {ps:List (Nat×SV)}:(st.ws g).xU d ks sz ps=(st.xU d ks sz ps).map (fQ (some d) g):=by
 unfold St.xU
 split
 ·split
  ·simp only [lV,bP,ak]
   congr 1
   funext p
   obtain ⟨⟨m,t,a⟩,s'⟩:=p
   cases m<;>cases a<;>first | rfl | skip
   simp only [Option.map_some,Option.some.injEq]
   exact lW (f:=fun p=> .v false [.own d p.2 0])
  ·rfl
 ·rfl
theorem Tn {x:Operand} (h:∀t,x= .tmp t→g t=st.sl t):(st.ws g).get x=st.get x:=by
 cases x with
 | tmp t=>exact h t rfl
 | _=>rfl
variable {P:Program} {cfg:Cfg} {c:FuncId→List Arg→Option (Res×List Out)} {nt:Nat}
theorem P9 {o:Oper} (h:∀x∈o.op.operands,(st.ws g).get x=st.get x):ah P cfg c nt o (st.ws g)=(ah P cfg c nt o st).map (fQ o.dst g):=by
 have one:∀{v:SV},(match o.dst with | none=>some (st.ws g) | some d=>if Nat.blt d nt then some ((st.ws g).aK d v) else none)=
  ((match o.dst with | none=>some st | some d=>if Nat.blt d nt then some (st.aK d v) else none):Option St).map (fQ o.dst g):=NF
 have at_:∀{k k':Nat→Option St},(∀d,o.dst=some d→k d=(k' d).map (fQ (some d) g))→(o.dst.bind fun d=>if Nat.blt d nt then k d else none)=(o.dst.bind fun d=>if Nat.blt d nt then k' d else none).map (fQ o.dst g):=by
  intro k k' hk
  cases hd:o.dst with
  | none=>rfl
  | some d=>
   simp only [Option.bind_some]
   split
   ·exact hk d hd
   ·rfl
 have pairs:∀ps:Array (Nat×Operand),(∀p∈ps.toList,(st.ws g).get p.2=st.get p.2)→(ps.toList.map fun p=>(p.1,(st.ws g).get p.2))=ps.toList.map fun p=>(p.1,st.get p.2):=by
  intro ps hp
  refine List.map_congr_left fun p hm=>?_
  rw [hp p hm]
 cases ho:o.op with
 | move x=>
  rw [ho] at h
  simp only [ah,ho,h x (by simp [Op.operands])]
  exact one
 | assign x=>
  rw [ho] at h
  simp only [ah,ho,h x (by simp [Op.operands])]
  exact at_ fun d hd=>LP
 | pick a x y=>
  rw [ho] at h
  simp only [ah,ho,h a (by simp [Op.operands]),h x (by simp [Op.operands]),h y (by simp [Op.operands]),ak]
  congr 1
  funext t
  exact one
 | alloc t=>
  simp only [ah,ho]
  refine at_ fun d hd=>?_
  simp only [ak]
  congr 1
  funext cs
  congr 1
  funext ks
  simp only [pz,Option.map_map]
  congr 1
  funext p
  exact lW (f:=fun p=> .v false [.mp d p.1 0])
 | box t x=>
  rw [ho] at h
  simp only [ah,ho,h x (by simp [Op.operands])]
  refine at_ fun d hd=>?_
  cases st.get x with
  | v ag cs=>
   simp only [ak]
   congr 1
   funext ks
   simp only [pz,Option.map_map]
   congr 1
   funext p
   exact lW (f:=fun p=> .v false [.mp d p.1 0])
  | _=>rfl
 | build t ps=>
  rw [ho] at h
  have hp:=pairs ps fun p hm=>h p.2 (by have hm':p∈ps:=(by simpa using hm);simp [Op.operands];exact ⟨p.1,hm'⟩)
  simp only [ah,ho,hp,yu,ak]
  congr 1
  funext zs
  split
  ·simp only [ak]
   congr 1
   funext pl
   congr 1
   funext cs
   exact one
  ·simp only [ak]
   congr 1
   funext inf
   congr 1
   funext cs
   exact one
  ·rfl
 | buildSlice t n ps=>
  rw [ho] at h
  have hp:=pairs ps fun p hm=>h p.2 (by have hm':p∈ps:=(by simpa using hm);simp [Op.operands];exact ⟨p.1,hm'⟩)
  simp only [ah,ho,hp]
  refine at_ fun d hd=>?_
  simp only [ak]
  congr 1
  funext e
  congr 1
  funext ks
  congr 1
  funext _
  split
  ·cases ps.size.beq 1&&cfg.deep nt d with
   | true=>exact Jr
   | false=>
    simp only [cond_false,HY,Option.map_map]
    congr 1
    funext p
    exact lW (f:=fun p=> .v false [.own d p.2 0])
  ·rfl
 | load t x=>
  rw [ho] at h
  simp only [ah,ho,h x (by simp [Op.operands]),ak,P5]
  congr 1
  funext ks
  congr 1
  funext r
  congr 1
  funext v
  exact one
 | store t p x=>
  rw [ho] at h
  simp only [ah,ho,h p (by simp [Op.operands]),h x (by simp [Op.operands])]
  cases hd:o.dst with
  | some d=>rfl
  | none=>
   simp only [Option.isSome_none,Bool.false_eq_true,if_false,ak]
   congr 1
   funext r
   cases st.get x with
   | v ag cs=>
    simp only
    split
    ·simp only [ak,ND]
     rfl
    ·rfl
   | _=>rfl
 | nilCheck x=>
  rw [ho] at h
  have e:(st.ws g).mW =st.mW :=funext fun r=>F5 r
  simp only [ah,ho,h x (by simp [Op.operands]),e]
  split
  ·split
   ·exact one
   ·rfl
  ·exact one
  ·rfl
 | binOp op t x y t2=>
  rw [ho] at h
  simp only [ah,ho,h x (by simp [Op.operands]),h y (by simp [Op.operands]),LM,ak]
  congr 1
  funext v
  exact one
 | unOp op t x=>
  rw [ho] at h
  simp only [ah,ho,h x (by simp [Op.operands]),ak]
  congr 1
  funext v
  exact one
 | convert s t x=>
  rw [ho] at h
  simp only [ah,ho,h x (by simp [Op.operands]),Hz]
  split
  ·exact one
  ·exact one
  ·split
   ·simp only [ak]
    congr 1
    funext p
    congr 1
    funext l
    exact one
   ·rfl
  ·rfl
 | fieldAddr s x f=>
  rw [ho] at h
  have e:∀n,(st.ws g).shift n=st.shift n:=fun n=>funext fun r=>Hw n r
  simp only [ah,ho,h x (by simp [Op.operands]),e]
  split
  ·simp only [ak]
   congr 1
   funext fd
   split
   ·rfl
   ·simp only [ak]
    congr 1
    funext r
    exact one
  ·rfl
 | indexAddr t x i=>
  rw [ho] at h
  simp only [ah,ho,h x (by simp [Op.operands]),h i (by simp [Op.operands]),ak]
  congr 1
  funext p
  congr 1
  funext i
  congr 1
  funext r
  split
  ·simp only [Hy,ak]
   congr 1
   funext inf
   congr 1
   funext r
   exact one
  ·split
   ·simp only [Hw,ak]
    congr 1
    funext inf
    congr 1
    funext r
    exact one
   ·rfl
  ·rfl
 | index t x i=>
  rw [ho] at h
  simp only [ah,ho,h x (by simp [Op.operands]),h i (by simp [Op.operands]),ak]
  congr 1
  funext p
  congr 1
  funext i
  split
  ·simp only [ak]
   congr 1
   funext r
   exact one
  ·simp only [ak]
   congr 1
   funext r
   exact one
 | field t x f=>
  rw [ho] at h
  simp only [ah,ho,h x (by simp [Op.operands])]
  split
  ·simp only [ak]
   congr 1
   funext fd
   congr 1
   funext u
   congr 1
   funext v
   exact one
  ·rfl
 | extract x i=>
  rw [ho] at h
  simp only [ah,ho,h x (by simp [Op.operands])]
  split
  ·simp only [ak]
   congr 1
   funext p
   exact one
  ·rfl
 | slice t x lo hi mx=>
  cases mx with
  | some _=>simp [ah,ho]
  | none=>
   rw [ho] at h
   have hl:∀y,lo=some y→(st.ws g).get y=st.get y:=fun y e=>h y (by subst e;simp [Op.operands])
   have hh:∀y,hi=some y→(st.ws g).get y=st.get y:=fun y e=>h y (by subst e;simp [Op.operands])
   have e:∀(sz:Nat) (r:RV) (a b:Option Int),(st.ws g).reslice sz r a b=st.reslice sz r a b:=fun sz r a b=>Jn sz r a b
   have body:∀(a b:Option (Option Int)),(a.bind fun lo=>b.bind fun hi=>match P.underlying t,(st.ws g).get x with
    | some .string,.v false [.im _ (.sc (.string s))]=>
     (match lo with | none=>some 0 | some l=>oW l).bind fun l=>(match hi with | none=>some s.size | some h=>oW h).bind fun h=>
       if Nat.ble l h&&Nat.ble h s.size then (match o.dst with | none=>some (st.ws g) | some d=>if Nat.blt d nt then some ((st.ws g).aK d (.im 0 (.sc (.string (s.extract l h))))) else none) else none
    | some (.slice e),.v false [r]=>(P.info? e).bind fun inf=>((st.ws g).reslice inf.size r lo hi).bind fun r=>(match o.dst with | none=>some (st.ws g) | some d=>if Nat.blt d nt then some ((st.ws g).aK d (.v false [r])) else none)
    | _,_=>none)=(a.bind fun lo=>b.bind fun hi=>match P.underlying t,st.get x with
    | some .string,.v false [.im _ (.sc (.string s))]=>
     (match lo with | none=>some 0 | some l=>oW l).bind fun l=>(match hi with | none=>some s.size | some h=>oW h).bind fun h=>
       if Nat.ble l h&&Nat.ble h s.size then (match o.dst with | none=>some st | some d=>if Nat.blt d nt then some (st.aK d (.im 0 (.sc (.string (s.extract l h))))) else none) else none
    | some (.slice e),.v false [r]=>(P.info? e).bind fun inf=>(st.reslice inf.size r lo hi).bind fun r=>(match o.dst with | none=>some st | some d=>if Nat.blt d nt then some (st.aK d (.v false [r])) else none)
    | _,_=>none:Option St).map (fQ o.dst g):=by
    intro a b
    simp only [h x (by simp [Op.operands]),e,ak]
    congr 1
    funext lo
    congr 1
    funext hi
    split
    ·simp only [ak]
     congr 1
     funext l
     congr 1
     funext h
     split
     ·exact one
     ·rfl
    ·simp only [ak]
     congr 1
     funext inf
     congr 1
     funext r
     exact one
    ·rfl
   cases lo with
   | none=>
    cases hi with
    | none=>simp only [ah,ho];exact body (some none) (some none)
    | some y=>simp only [ah,ho,hh y rfl];exact body (some none) _
   | some z=>
    cases hi with
    | none=>simp only [ah,ho,hl z rfl];exact body _ (some none)
    | some y=>simp only [ah,ho,hl z rfl,hh y rfl];exact body _ _
 | makeSlice t n m=>
  rw [ho] at h
  simp only [ah,ho,h n (by simp [Op.operands]),h m (by simp [Op.operands])]
  refine at_ fun d hd=>?_
  simp only [ak]
  congr 1
  funext e
  congr 1
  funext zs
  split
  ·rfl
  ·simp only [ak]
   congr 1
   funext ks
   congr 1
   funext a
   congr 1
   funext b
   congr 1
   funext n'
   split
   ·simp only [uT,bP,ak,Option.map_map]
    congr 1
    funext p
    congr 1
    funext z
    exact lW (f:=fun p=> .v false [.own d p.2 0])
   ·rfl
 | makeFunc fn first caps=>
  cases fn with
  | func f=>
   rw [ho] at h
   have hc:(caps.toList.mapM fun c=>((st.ws g).get c).one?)=caps.toList.mapM fun c=>(st.get c).one? :=by
    have:∀l:List Operand,(∀x∈l,(st.ws g).get x=st.get x)→(l.mapM fun c=>((st.ws g).get c).one?)=l.mapM fun c=>(st.get c).one? :=by
     intro l
     induction l with
     | nil=>intro _;rfl
     | cons x l ih=>intro hx;simp only [List.mapM_cons,hx x (by simp),ih fun y hy=>hx y (by simp [hy])]
    exact this _ fun x hx=>h x (by simp [Op.operands];right;simpa using hx)
   simp only [ah,ho,hc]
   split
   ·simp only [ak]
    congr 1
    funext rs
    exact one
   ·rfl
  | _=>simp [ah,ho]
 | call cl=>
  rw [ho] at h
  have ha:cl.args.toList.map (st.ws g).get=cl.args.toList.map st.get:=List.map_congr_left fun x hx=>h x (by simp [Op.operands,Call.operands];right;simpa using hx)
  cases hc:cl.callee with
  | value f=>
   have hf:=h f (by simp [Op.operands,Call.operands,hc])
   simp only [ah,ho,hc,hf,ha]
   split
   ·split
    ·exact Kq
    ·rfl
   ·split
    ·exact Kq
    ·rfl
   ·rfl
  | builtin b=>
   have e:(st.ws g).len=st.len:=funext fun r=>Jm r
   cases b with
   | len=>
    simp only [ah,ho,hc,ha,e]
    split
    ·split
     ·exact one
     ·rfl
    ·split
     ·simp only [ak]
      congr 1
      funext n
      exact one
     ·rfl
    ·rfl
   | min=>
    simp only [ah,ho,hc,ha,ak]
    congr 1
    funext v
    exact one
   | max=>
    simp only [ah,ho,hc,ha,ak]
    congr 1
    funext v
    exact one
   | append=>
    simp only [ah,ho,hc,ha]
    refine at_ fun d hd=>?_
    simp only [ak]
    congr 1
    funext e
    congr 1
    funext zs
    split
    ·rfl
    ·split
     ·exact EJ
     ·exact EJ
     ·rfl
   | _=>simp [ah,ho,hc]
  | _=>simp [ah,ho,hc]
 | _=>simp [ah,ho]
end
end
end Go.Sim
namespace Go.Sim
set_option linter.unusedSimpArgs false
set_option linter.unusedVariables false
section
variable {st s:St}
def Agree (st s:St) (r:RV):Prop:=∀b,r.SN =some b→s.L b=st.L b
theorem yc {o k c:Nat} (h:s.L o=st.L o):s.cell o k c=st.cell o k c:=by simp only [St.cell,h]
theorem NG {o k:Nat} (h:s.L o=st.L o):s.obj o k=st.obj o k:=by simp only [St.obj,h]
theorem Qa {ag:Bool} {n:Nat} {r:RV} (h:Agree st s r):s.load ag n r=st.load ag n r:=by
 cases r with
 | mp o k off=>simp only [St.load,NG (h o rfl)]
 | mpe o k c i off=>simp only [St.load,yc (h o rfl)]
 | im t a=>cases a<;>rfl
 | ws y=>cases y<;>rfl
 | _=>rfl
theorem F6 {r:RV} (h:Agree st s r):s.mW r=st.mW r:=by
 cases r with
 | mp o k off=>simp only [St.mW,NG (h o rfl)]
 | mpe o k c i off=>simp only [St.mW,yc (h o rfl)]
 | im t a=>
  cases a with
  | sc v=>
   cases v with
   | pointer p=>cases p<;>rfl
   | _=>rfl
  | _=>rfl
 | ws y=>cases y<;>rfl
 | _=>rfl
theorem Tq {r:RV} (h:Agree st s r):s.len r=st.len r:=by
 cases r with
 | own o k c=>simp only [St.len,yc (h o rfl)]
 | sub o k c lo hi=>simp only [St.len,yc (h o rfl)]
 | im t a=>cases a<;>rfl
 | ws y=>cases y<;>rfl
 | _=>rfl
theorem H6 {n:Nat} {r:RV} (h:Agree st s r):s.shift n r=st.shift n r:=by simp only [St.shift,F6 h]
theorem H7 {sz i:Nat} {r:RV} (h:Agree st s r):s.fB sz r i=st.fB sz r i:=by
 cases r with
 | own o k c=>simp only [St.fB,yc (h o rfl)]
 | sub o k c lo hi=>simp only [St.fB,yc (h o rfl)]
 | im t a=>cases a<;>rfl
 | ws y=>cases y<;>rfl
 | _=>rfl
theorem NH {ty:Option TypeDesc} {op:BinOp} {x y:SV} (hx:∀r,x= .v false [r]→Agree st s r) (hy:∀r,y= .v false [r]→Agree st s r):binop s ty op x y=binop st ty op x y:=by
 unfold binop
 split
 ·rfl
 ·rfl
 ·rfl
 ·rw [F6 (hx _ rfl),F6 (hy _ rfl)]
 ·rfl
theorem LQ {P:Program} {t:TypeId} {op:BinOp} {x y:SV} (hx:∀r,x= .v false [r]→Agree st s r) (hy:∀r,y= .v false [r]→Agree st s r):sG P s t op x y=sG P st t op x y:=by
 unfold sG
 split
 ·rfl
 ·exact NH hx hy
theorem zA {x:SV} {r:RV} (h:x.one? =some r):x= .v false [r]:=by
 unfold SV.one? at h
 split at h
 ·cases h;rfl
 ·cases h
variable {P:Program} {cfg:Cfg} {c:FuncId→List Arg→Option (Res×List Out)} {nt:Nat}
def NI (nt:Nat) (dst:Option Tmp) (v:SV) (s:St):Option St:=match dst with | none=>some s | some d=>if Nat.blt d nt then some (s.aK d v) else none
theorem H8 {o:Oper} (hk:sH o.op=true) {st':St} (e:ah P cfg c nt o st=some st'):
 ∃v,NI nt o.dst v st=some st'∧∀s:St,(∀x∈o.op.operands,s.get x=st.get x)→(∀x∈watch o.op,∀b∈(st.get x).dA,s.L b=st.L b)→ah P cfg c nt o s=NI nt o.dst v s:=by
 have ag:∀{s:St} {x:Operand},(∀x∈watch o.op,∀b∈(st.get x).dA,s.L b=st.L b)→x∈watch o.op→∀r,st.get x= .v false [r]→Agree st s r:=by
  intro s x h hx r e b hb
  exact h x hx b (by rw [e];simp [SV.dA,hb])
 cases ho:o.op with
 | move x=>
  simp only [ah,ho] at e
  refine ⟨st.get x,e,fun s h1 h2=>?_⟩
  simp only [ah,ho,h1 x (by simp [watch,Op.operands])]
  rfl
 | pick a x y=>
  simp only [ah,ho] at e
  obtain ⟨t,ht,e⟩:=Option.bind_eq_some_iff.1 e
  refine ⟨bif t then st.get x else st.get y,e,fun s h1 h2=>?_⟩
  simp only [ah,ho,h1 a (by simp [watch,Op.operands]),h1 x (by simp [watch,Op.operands]),h1 y (by simp [watch,Op.operands]),ht,Option.bind_some]
  rfl
 | load t x=>
  rw [ho] at ag
  simp only [ah,ho] at e
  obtain ⟨ks,hks,e⟩:=Option.bind_eq_some_iff.1 e
  obtain ⟨r,hr,e⟩:=Option.bind_eq_some_iff.1 e
  obtain ⟨v,hv,e⟩:=Option.bind_eq_some_iff.1 e
  refine ⟨v,e,fun s h1 h2=>?_⟩
  simp only [ah,ho,h1 x (by simp [watch,Op.operands]),hks,hr,Option.bind_some,Qa (ag h2 (by simp [watch,Op.operands]) r (zA hr)),hv]
  rfl
 | nilCheck x=>
  rw [ho] at ag
  simp only [ah,ho] at e
  split at e
  ·rename_i r hx
   split at e
   ·rename_i hp
    refine ⟨_,e,fun s h1 h2=>?_⟩
    simp only [ah,ho,h1 x (by simp [watch,Op.operands]),hx,F6 (ag h2 (by simp [watch,Op.operands]) r hx),hp]
    rfl
   ·cases e
  ·rename_i f cs hx
   refine ⟨_,e,fun s h1 h2=>?_⟩
   simp only [ah,ho,h1 x (by simp [watch,Op.operands]),hx]
   rfl
  ·cases e
 | binOp op t x y t2=>
  rw [ho] at ag
  simp only [ah,ho] at e
  obtain ⟨v,hv,e⟩:=Option.bind_eq_some_iff.1 e
  refine ⟨_,e,fun s h1 h2=>?_⟩
  simp only [ah,ho,h1 x (by simp [watch,Op.operands]),h1 y (by simp [watch,Op.operands]),LQ (ag (x:=x) h2 (by simp [watch,Op.operands])) (ag (x:=y) h2 (by simp [watch,Op.operands])),hv,Option.bind_some]
  rfl
 | unOp op t x=>
  simp only [ah,ho] at e
  obtain ⟨v,hv,e⟩:=Option.bind_eq_some_iff.1 e
  refine ⟨_,e,fun s h1 h2=>?_⟩
  simp only [ah,ho,h1 x (by simp [watch,Op.operands]),hv,Option.bind_some]
  rfl
 | fieldAddr t x f=>
  rw [ho] at ag
  simp only [ah,ho] at e
  split at e
  ·rename_i fs hu
   obtain ⟨fd,hfd,e⟩:=Option.bind_eq_some_iff.1 e
   split at e
   ·cases e
   ·rename_i hnz
    obtain ⟨r',hr',e⟩:=Option.bind_eq_some_iff.1 e
    obtain ⟨r,hr,hsh⟩:=Option.bind_eq_some_iff.1 hr'
    refine ⟨_,e,fun s h1 h2=>?_⟩
    simp only [ah,ho,hu,hfd,Option.bind_some,if_neg hnz,h1 x (by simp [watch,Op.operands]),hr,H6 (ag h2 (by simp [watch,Op.operands]) r (zA hr)),hsh]
    rfl
  ·cases e
 | indexAddr t x i=>
  rw [ho] at ag
  simp only [ah,ho] at e
  obtain ⟨p,hp,e⟩:=Option.bind_eq_some_iff.1 e
  obtain ⟨n,hn,e⟩:=Option.bind_eq_some_iff.1 e
  obtain ⟨r,hr,e⟩:=Option.bind_eq_some_iff.1 e
  split at e
  ·rename_i el hu
   obtain ⟨inf,hi,e⟩:=Option.bind_eq_some_iff.1 e
   obtain ⟨r',hr',e⟩:=Option.bind_eq_some_iff.1 e
   refine ⟨_,e,fun s h1 h2=>?_⟩
   simp only [ah,ho,h1 i (by simp [watch,Op.operands]),h1 x (by simp [watch,Op.operands]),hp,hn,hr,Option.bind_some,hu,hi,H7 (ag h2 (by simp [watch,Op.operands]) r (zA hr)),hr']
   rfl
  ·rename_i m el hu
   split at e
   ·rename_i hlt
    obtain ⟨inf,hi,e⟩:=Option.bind_eq_some_iff.1 e
    obtain ⟨r',hr',e⟩:=Option.bind_eq_some_iff.1 e
    refine ⟨_,e,fun s h1 h2=>?_⟩
    simp only [ah,ho,h1 i (by simp [watch,Op.operands]),h1 x (by simp [watch,Op.operands]),hp,hn,hr,Option.bind_some,hu,hlt,if_true,hi,H6 (ag h2 (by simp [watch,Op.operands]) r (zA hr)),hr']
    rfl
   ·cases e
  ·cases e
 | extract x i=>
  simp only [ah,ho] at e
  split at e
  ·rename_i vs hx
   obtain ⟨p,hp,e⟩:=Option.bind_eq_some_iff.1 e
   refine ⟨_,e,fun s h1 h2=>?_⟩
   simp only [ah,ho,h1 x (by simp [watch,Op.operands]),hx,hp,Option.bind_some]
   rfl
  ·cases e
 | field t x f=>
  simp only [ah,ho] at e
  split at e
  ·rename_i fs cs hu hx
   obtain ⟨fd,hfd,e⟩:=Option.bind_eq_some_iff.1 e
   obtain ⟨u,hu2,e⟩:=Option.bind_eq_some_iff.1 e
   obtain ⟨v,hv,e⟩:=Option.bind_eq_some_iff.1 e
   refine ⟨_,e,fun s h1 h2=>?_⟩
   simp only [ah,ho,h1 x (by simp [watch,Op.operands]),hu,hx,hfd,Option.bind_some,hu2,hv]
   rfl
  ·cases e
 | index t x i=>
  simp only [ah,ho] at e
  obtain ⟨p,hp,e⟩:=Option.bind_eq_some_iff.1 e
  obtain ⟨n,hn,e⟩:=Option.bind_eq_some_iff.1 e
  split at e
  ·rename_i hu hx
   obtain ⟨b,hb,e⟩:=Option.bind_eq_some_iff.1 e
   refine ⟨_,e,fun s h1 h2=>?_⟩
   simp only [ah,ho,h1 i (by simp [watch,Op.operands]),h1 x (by simp [watch,Op.operands]),hp,hn,Option.bind_some,hu,hx,hb]
   rfl
  ·rename_i hno
   obtain ⟨b,hb,e⟩:=Option.bind_eq_some_iff.1 e
   refine ⟨_,e,fun s h1 h2=>?_⟩
   simp only [ah,ho,h1 i (by simp [watch,Op.operands]),h1 x (by simp [watch,Op.operands]),hp,hn,Option.bind_some,hb]
   rfl
 | call cl=>
  rw [ho] at hk ag
  cases hc:cl.callee with
  | builtin b=>
   cases b with
   | len=>
    have mem:∀x∈cl.args.toList,x∈(Op.call cl).operands:=fun x hx=>by simp [Op.operands,Call.operands];right;simpa using hx
    have ha:∀s:St,(∀x∈(Op.call cl).operands,s.get x=st.get x)→cl.args.toList.map s.get=cl.args.toList.map st.get:=fun s h=>List.map_congr_left fun x hx=>h x (mem x hx)
    simp only [ah,ho,hc] at e
    split at e
    ·rename_i hx
     split at e
     ·rename_i hu
      refine ⟨_,e,fun s h1 h2=>?_⟩
      simp only [ah,ho,hc,ha s h1,hx,hu]
      rfl
     ·cases e
    ·rename_i r hns hx
     split at e
     ·rename_i el hu
      obtain ⟨n,hn,e⟩:=Option.bind_eq_some_iff.1 e
      refine ⟨_,e,fun s h1 h2=>?_⟩
      obtain ⟨y,hy⟩:∃y,cl.args.toList=[y]:=by
       have hl:=congrArg List.length hx
       rw [List.length_map] at hl
       match hcl:cl.args.toList,hl with
       | [y],_=>exact ⟨y,rfl⟩
      have hy2:st.get y= .v false [r]:=by rw [hy] at hx;simpa using hx
      have hag:=ag h2 (show y∈(Op.call cl).operands.toList by simpa using mem y (by rw [hy];simp)) r hy2
      simp only [ah,ho,hc,ha s h1]
      rw [hx]
      split
      ·rename_i h
       cases h
       exact absurd rfl (hns _ _)
      ·rename_i r' _ h
       cases h
       simp only [hu,Tq hag,hn,Option.bind_some]
       rfl
      ·rename_i h1 h2
       exact absurd rfl (h2 r)
     ·cases e
    ·cases e
   | _=>simp [sH,hc] at hk
  | _=>simp [sH,hc] at hk
 | _=>rw [ho] at hk;cases hk
end
end Go.Sim
