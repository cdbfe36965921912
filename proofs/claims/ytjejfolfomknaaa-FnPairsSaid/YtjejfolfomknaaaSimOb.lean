/- Operations that only read may be taken first. Conditions: none. -/
import Derived.Test.YtjejfolfomknaaaSimO
namespace Go.Sim
set_option linter.unusedSimpArgs false
set_option linter.unusedVariables false
def St.ws (st:St) (g:Nat→SV):St:={st with sl:=g}
section
variable {st:St} {g:Nat→SV}
theorem pW (o s c:Nat):(st.ws g).cell o s c=st.cell o s c:=rfl
theorem G6 (o s:Nat):(st.ws g).obj o s=st.obj o s:=rfl
theorem EI (o:Nat) (ob:Obj):(st.ws g).setObj o ob=(st.setObj o ob).ws g:=rfl
theorem O7 (sz:Nat) (r:RV):(st.ws g).view sz r=st.view sz r:=by cases r<;>rfl
theorem Sz (sz:Nat) (r:RV):(st.ws g).Ld sz r=st.Ld sz r:=by cases r<;>rfl
theorem QI (r:RV):(st.ws g).freeze r=(st.freeze r).ws g:=by
 cases r with
 | own o s c=>simp only [St.freeze,pW];split<;>rfl
 | sub o s c lo hi=>simp only [St.freeze,pW];split<;>rfl
 | mpe o s c i off=>simp only [St.freeze,pW];split<;>rfl
 | mp o s off=>simp only [St.freeze,G6];split<;>rfl
 | _=>rfl
theorem NS (sz:Nat) (r:RV):(st.ws g).fix sz r=(st.fix sz r).map fun p=>(p.1,p.2.1,p.2.2.ws g):=by
 simp only [St.fix,O7,QI,Option.map_map]
 rfl
theorem dX {α β γ:Type} (o:Option α) (f:α→β) (k:β→Option γ):(o.map f).bind k=o.bind fun x=>k (f x):=by cases o<;>rfl
theorem aG {α β γ:Type} (o:Option α) (f:β→γ) (k:α→Option β):(o.bind k).map f=o.bind fun x=>(k x).map f:=by cases o<;>rfl
theorem yh:∀(ks:List (Option Nat)) (rs:List RV) {st:St},(st.ws g).fQ ks rs=(st.fQ ks rs).map fun p=>(p.1,p.2.1,p.2.2.ws g)
 | ks,[],st=>rfl
 | ks,r::rs,st=>by
  simp only [St.fQ,NS,dX,aG]
  congr 1
  funext p
  rw [yh ks.tail rs]
  simp only [Option.map_map]
  rfl
theorem oU (sz:Nat) (r:RV):(st.ws g).take sz r=(st.take sz r).map fun p=>(p.1,p.2.ws g):=by
 cases r with
 | im t a=>rfl
 | nil=>rfl
 | nP=>rfl
 | fr a=>rfl
 | ws a=>rfl
 | own o s c=>
  simp only [St.take,pW]
  cases st.cell o s c with
  | none=>rfl
  | some p=>obtain ⟨ob,⟨m,s',t,a⟩⟩:=p;cases m<;>rfl
 | sub o s c lo hi=>
  simp only [St.take,pW]
  cases st.cell o s c with
  | none=>rfl
  | some p=>obtain ⟨ob,⟨m,s',t,a⟩⟩:=p;cases m<;>cases a<;>rfl
 | mp o s off=>simp only [St.take,NS,Option.map_map];rfl
 | mpe o s c i off=>simp only [St.take,NS,Option.map_map];rfl
 | inr o s c i j n=>
  simp only [St.take,pW]
  cases st.cell o s c with
  | none=>rfl
  | some p=>
   obtain ⟨ob,⟨m,s',t,a⟩⟩:=p
   cases m with
   | dp n'=>
    cases a with
    | row z es=>
     simp only [Option.bind_some]
     split
     ·simp only [aG]
      congr 1
      funext e
      split<;>rfl
     ·rfl
    | _=>rfl
   | _=>rfl
theorem sN:∀(ks:List (Option Nat)) (rs:List RV) {st:St},(st.ws g).fU ks rs=(st.fU ks rs).map fun p=>(p.1,p.2.ws g)
 | ks,[],st=>rfl
 | ks,r::rs,st=>by
  simp only [St.fU,oU,dX,aG]
  congr 1
  funext p
  rw [sN ks.tail rs]
  simp only [Option.map_map]
  rfl
theorem Jf (d:Nat) (mem ag:Bool) (cs:List CV):(st.ws g).newObj d mem ag cs=((st.newObj d mem ag cs).1.ws g,(st.newObj d mem ag cs).2):=rfl
theorem UU (ag:Bool) (n:Nat) (x:RV):(st.ws g).load ag n x=st.load ag n x:=by cases x<;>rfl
theorem JZ (x:RV):(st.ws g).pJ x=st.pJ x:=by cases x<;>rfl
theorem NT (x:RV):(st.ws g).len x=st.len x:=by cases x<;>rfl
theorem LP (n:Nat) (x:RV):(st.ws g).shift n x=st.shift n x:=by simp only [St.shift,JZ]
theorem LU (sz i:Nat) (x:RV):(st.ws g).iZ sz x i=st.iZ sz x i:=by cases x<;>rfl
theorem NU (sz:Nat) (x:RV) (lo hi:Option Int):(st.ws g).reslice sz x lo hi=st.reslice sz x lo hi:=by
 unfold St.reslice
 simp only [NT]
 cases x<;>rfl
theorem UW (x:RV):(st.ws g).JM x=st.JM x:=by cases x<;>rfl
theorem UX (o s c:Nat):(st.ws g).Dy o s c=st.Dy o s c:=rfl
theorem LV (sz:Nat) (x:RV):(st.ws g).elems sz x=st.elems sz x:=by simp only [St.elems,O7,UW]
theorem SA (ty:Option TypeDesc) (op:BinOp) (x y:SV):binop (st.ws g) ty op x y=binop st ty op x y:=by
 have e:(st.ws g).pJ =st.pJ :=funext fun r=>JZ r
 unfold binop
 rw [e]
theorem QJ {P:Program} (t:TypeId) (op:BinOp) (x y:SV):vM P (st.ws g) t op x y=vM P st t op x y:=by
 unfold vM
 split
 ·rfl
 ·rw [SA]
theorem SB (r:RV):(st.ws g).alive r=st.alive r:=by cases r<;>simp only [St.alive,JZ,NT,pW]<;>rfl
theorem BQ (pl:List (Nat×Nat)):∀(xs:List (Nat×SV)) (cs:List RV),lY (st.ws g) pl cs xs=lY st pl cs xs
 | [],cs=>rfl
 | (i,.v ag rs)::r,cs=>by
  have e:(st.ws g).alive=st.alive:=funext fun r=>SB r
  simp only [lY,e]
  congr 1
  funext p
  split
  ·exact BQ pl r _
  ·rfl
 | (i,.fn _ _)::r,cs=>rfl
 | (i,.tup _)::r,cs=>rfl
theorem LW (ag:Bool) (ks:List (Option Nat)) (sz:Nat):∀(xs:List (Nat×SV)) (k:Nat) {st:St},(st.ws g).parts ag ks sz k xs=(st.parts ag ks sz k xs).map fun p=>(p.1,p.2.1,p.2.2.ws g)
 | [],k,st=>rfl
 | (i,.v ag' cs)::r,k,st=>by
  simp only [St.parts]
  split
  ·simp only [yh,dX,aG]
   congr 1
   funext p
   congr 1
   funext e
   rw [LW ag ks sz r (k+1)]
   simp only [Option.map_map]
   rfl
  ·rfl
 | (i,.fn _ _)::r,k,st=>rfl
 | (i,.tup _)::r,k,st=>rfl
theorem SC (ks:List (Option Nat)) (x:RV) (cs:List RV):(st.ws g).store ks x cs=(st.store ks x cs).map (·.ws g):=by
 cases x with
 | mp o s off=>
  simp only [St.store,sN,dX,aG]
  congr 1
  funext p
  simp only [G6]
  cases p.2.obj o s with
  | none=>rfl
  | some ob=>simp only [Option.bind_some];split<;>rfl
 | mpe o s c i off=>
  simp only [St.store,UX]
  by_cases hd:st.Dy o s c=true
  ·simp only [if_pos hd,sN,dX,aG]
   congr 1
   funext p
   simp only [pW]
   cases p.2.cell o s c with
   | none=>rfl
   | some q=>
    obtain ⟨ob,⟨m,s',t',a⟩⟩:=q
    cases m with
    | dd n i' j=>
     cases a with
     | row sz es=>
      simp only [Option.bind_some]
      split
      ·split
       ·simp only [aG,Option.map_map];rfl
       ·rfl
      ·rfl
     | _=>rfl
    | _=>rfl
  ·simp only [if_neg hd,yh,dX,aG]
   congr 1
   funext p
   simp only [pW]
   cases p.2.2.cell o s c with
   | none=>rfl
   | some q=>
    obtain ⟨ob,⟨m,s',t',a⟩⟩:=q
    cases m<;>cases a<;>first | rfl | (simp only [Option.bind_some,aG,Option.map_map];rfl)
 | ws a=>
  cases a with
  | cp as off=>
   simp only [St.store]
   split<;>rfl
  | _=>rfl
 | _=>rfl
theorem G7:∀(ks:List (Option Nat)) (rs:List RV),mY (st.ws g) ks rs=mY st ks rs
 | ks,[]=>rfl
 | ks,r::rs=>by simp only [mY,Sz,G7 ks.tail rs]
section
variable {P:Program} {cfg:Cfg} {c:FuncId→List Arg→Option (Res×List Out)}
theorem UY (m:PM) (ks:List (Option Nat)) (x:SV):(st.ws g).BG m ks x=(st.BG m ks x).map fun p=>(p.1,p.2.ws g):=by
 unfold St.BG
 split
 ·simp only [yh,dX,aG]
  congr 1
  funext p
  split<;>rfl
 ·simp only [oU,dX,aG]
  congr 1
  funext p
  split
  ·rfl
  ·split<;>rfl
 ·simp only [sN,dX,aG]
  congr 1
  funext p
  split<;>rfl
 ·simp only [G6]
  rename_i o s
  cases st.obj o s with
  | none=>rfl
  | some ob=>simp only [Option.bind_some];split<;>rfl
 ·rfl
theorem G8 (f:FuncId):∀(xs:List (TypeId×SV)) (j:Nat) {st:St},(st.ws g).pU P cfg f j xs=(st.pU P cfg f j xs).map fun p=>(p.1,p.2.ws g)
 | [],j,st=>rfl
 | (t,x)::xs,j,st=>by
  simp only [St.pU,UY,dX,aG]
  congr 1
  funext p
  rw [G8 f xs (j+1)]
  simp only [Option.map_map]
  rfl
theorem Xf (m:PM) (ks:List (Option Nat)) (x:SV) (a:Option Arg):(st.ws g).see m ks x a=st.see m ks x a:=by
 cases a with
 | some a=>rfl
 | none=>unfold St.see;simp only [G7,G6,pW]
theorem Jg (f:FuncId):∀(xs:List (TypeId×SV)) (as:List (Option Arg)) (j:Nat),(st.ws g).pz P cfg f j xs as=st.pz P cfg f j xs as
 | [],[],j=>rfl
 | [],_::_,j=>rfl
 | (t,x)::xs,[],j=>rfl
 | (t,x)::xs,a::as,j=>by simp only [St.pz,Xf,Jg f xs as (j+1)]
theorem CE (t:Nat):∀(ls:List (Nat×Nat×Nat)) (os:List Out) {st:St},iC (st.ws g) t ls os=(iC st t ls os).map (·.ws g)
 | [],[],st=>rfl
 | [],_::_,st=>rfl
 | (o,s,c)::ls,[],st=>rfl
 | (o,s,c)::ls,.ptr ag cs::os,st=>by
  simp only [iC,G6,aG,EI]
  congr 1
  funext ob
  exact CE t ls os
 | (o,s,c)::ls,.ow sz es::os,st=>by
  simp only [iC,pW,aG,EI]
  congr 1
  funext ob
  split
  ·exact CE t ls os
  ·rfl
def iW (dst:Option Tmp) (g:Nat→SV) (s:St):St:=s.ws (match dst with | some d=>upd g d (s.sl d) | none=>g)
theorem qN {d:Nat} {v:SV}:iW (some d) g (st.aV d v)=(st.ws g).aV d v:=by
 simp only [iW,St.aV,St.ws,upd_same]
theorem SE {dst:Option Tmp} {nt:Nat} {v:SV}:(match dst with | none=>some (st.ws g) | some d=>if Nat.blt d nt then some ((st.ws g).aV d v) else none)=
 ((match dst with | none=>some st | some d=>if Nat.blt d nt then some (st.aV d v) else none):Option St).map (iW dst g):=by
 cases dst with
 | none=>rfl
 | some d=>
  simp only
  split
  ·simp only [Option.map_some,qN]
  ·rfl
theorem oV {d:Nat} {mem ag:Bool} {cs:List CV} {f:Nat×Nat→SV}:((st.ws g).newObj d mem ag cs).1.aV d (f ((st.ws g).newObj d mem ag cs).2)=iW (some d) g ((st.newObj d mem ag cs).1.aV d (f (st.newObj d mem ag cs).2)):=by
 rw [Jf,qN]
theorem QK {d sz:Nat} {x:SV}:(st.ws g).assign d sz x=(st.assign d sz x).map (iW (some d) g):=by
 have go:∀r:RV,(((st.ws g).take sz r).map fun (x,st)=>
  match x.m with
  | .sh=>(st.newObj d false false [x]).1.aV d (.v false [.own d (st.newObj d false false [x]).2.2 0])
  | .dp _=>(st.newObj d false false [x]).1.aV d (.v false [.own d (st.newObj d false false [x]).2.2 0])
  | .ws=>st.aV d (.v false [.ws x.a])
  | .fr=>st.aV d (.v false [.fr x.a])
  | _=>st.aV d (.im x.t x.a))=((st.take sz r).map fun (x,st)=>
  match x.m with
  | .sh=>(st.newObj d false false [x]).1.aV d (.v false [.own d (st.newObj d false false [x]).2.2 0])
  | .dp _=>(st.newObj d false false [x]).1.aV d (.v false [.own d (st.newObj d false false [x]).2.2 0])
  | .ws=>st.aV d (.v false [.ws x.a])
  | .fr=>st.aV d (.v false [.fr x.a])
  | _=>st.aV d (.im x.t x.a)).map (iW (some d) g):=by
  intro r
  rw [oU]
  cases st.take sz r with
  | none=>rfl
  | some p=>
   obtain ⟨⟨m,t,a⟩,s⟩:=p
   simp only [Option.map_some,Option.some.injEq]
   cases m<;>first | exact oV (f:=fun p=> .v false [.own d p.2 0]) | exact qN.symm
 unfold St.assign
 split
 ·split
  ·simp only [Option.map_some,qN]
  ·exact go _
 ·exact go _
 ·exact go _
 ·simp only [Option.map_some,qN]
theorem NV (d:Nat) (cs:List CV):(st.ws g).xC d cs=(st.xC d cs).ws g:=by cases cs<;>rfl
theorem Jh {dst:Option Tmp} {mt:Nat→Option Nat} {res:Res}:(st.ws g).unpack dst mt res=(st.unpack dst mt res).map (iW dst g):=by
 cases dst with
 | none=>rfl
 | some d=>
  unfold St.unpack
  simp only
  split
  ·simp only [Option.map_map]
   congr 1
   funext cs
   exact oV (f:=fun p=> .v false [.mp d p.1 0])
  ·simp only [Option.map_map]
   have e:(st.ws g).mZ d=st.mZ d:=rfl
   rw [e]
   congr 1
   funext q
   simp only [Function.comp,NV,qN]
theorem DU {P:Program} {cfg:Cfg} {c:FuncId→List Arg→Option (Res×List Out)} {dst:Option Tmp} {f:FuncId} {xs:List (TypeId×SV)}:(st.ws g).qp P cfg c dst f xs=(st.qp P cfg c dst f xs).map (iW dst g):=by
 unfold St.qp
 simp only [G8,dX,aG]
 congr 1
 funext pre
 simp only [Jg]
 congr 1
 funext p
 split
 ·rfl
 ·simp only [aG]
  congr 1
  funext r
  split
  ·simp only [dX,aG]
   congr 1
   funext s
   exact Jh
  split
  ·simp only [aG]
   congr 1
   funext q
   cases dst with
   | none=>rfl
   | some d=>simp only [Option.map_some,qN]
  ·simp only [CE,dX,aG]
   congr 1
   funext s
   exact Jh
theorem CG {P:Program} {cfg:Cfg} {c:FuncId→List Arg→Option (Res×List Out)} {d:Nat} {f:FuncId} {o s cc i j n:Nat}:(st.ws g).pV P cfg c d f o s cc i j n=(st.pV P cfg c d f o s cc i j n).map (iW (some d) g):=by
 unfold St.pV
 simp only [oU,dX,aG]
 congr 1
 funext q
 obtain ⟨⟨m,t,a⟩,s1⟩:=q
 cases m<;>cases a<;>first | rfl | skip
 simp only [Jf,DU,dX,aG]
 congr 1
 funext st2
 have e:iW none g st2=st2.ws g:=rfl
 simp only [e,oU,dX,aG]
 congr 1
 funext y
 obtain ⟨⟨m,t,a⟩,s2⟩:=y
 cases m<;>cases a<;>first | rfl | skip
 simp only [pW,aG]
 congr 1
 funext x
 obtain ⟨ob,m,s',t',a⟩:=x
 cases m<;>cases a<;>first | rfl | skip
 simp only
 split
 ·simp only [aG]
  congr 1
  funext e
  simp only [Option.map_map]
  congr 1
  funext e'
  simp only [Function.comp,qN,EI]
 ·rfl
theorem O8 {P:Program} {cfg:Cfg} {c:FuncId→List Arg→Option (Res×List Out)} {dst:Option Tmp} {f:FuncId} {xs:List (TypeId×SV)}:(st.ws g).call P cfg c dst f xs=(st.call P cfg c dst f xs).map (iW dst g):=by
 unfold St.call
 rw [DU,Option.map_or]
 congr 1
 split
 ·exact CG
 ·rfl
theorem NW {d:Nat} {ks:List (Option Nat)} {sz b:Nat} {x y:RV}:(st.ws g).xE d ks sz b x y=(st.xE d ks sz b x y).map (iW (some d) g):=by
 unfold St.xE
 simp only [LV,aG]
 congr 1
 funext p
 obtain ⟨ty,ys⟩:=p
 simp only
 have fin:∀(t:Nat) (es:List AV) (st:St),(if room (es.length+ys.length) b then some (((st.ws g).newObj d false false [⟨.sh,Nat.max t (bP ks ty ys),.row sz (es++ys)⟩]).1.aV d (.v false [.own d ((st.ws g).newObj d false false [⟨.sh,Nat.max t (bP ks ty ys),.row sz (es++ys)⟩]).2.2 0])) else none:Option St)=
  (if room (es.length+ys.length) b then some ((st.newObj d false false [⟨.sh,Nat.max t (bP ks ty ys),.row sz (es++ys)⟩]).1.aV d (.v false [.own d (st.newObj d false false [⟨.sh,Nat.max t (bP ks ty ys),.row sz (es++ys)⟩]).2.2 0])) else none:Option St).map (iW (some d) g):=by
  intro t es st
  split
  ·simp only [Option.map_some,Option.some.injEq]
   exact oV (f:=fun p=> .v false [.own d p.2 0])
  ·rfl
 cases x with
 | nil=>exact fin 0 [] st
 | own o s c'=>
  simp only [oU,dX,aG]
  congr 1
  funext q
  obtain ⟨⟨m,t,a⟩,s'⟩:=q
  cases m<;>cases a<;>first | rfl | (simp only;split<;>first | exact fin _ _ _ | rfl)
 | sub o s c' lo hi=>
  cases lo with
  | zero=>
   simp only [oU,dX,aG]
   congr 1
   funext q
   obtain ⟨⟨m,t,a⟩,s'⟩:=q
   cases m<;>cases a<;>first | rfl | (simp only;split<;>first | exact fin _ _ _ | rfl)
  | succ n=>rfl
 | inr o s c' i j n=>
  simp only [oU,dX,aG]
  congr 1
  funext q
  obtain ⟨⟨m,t,a⟩,s'⟩:=q
  cases m<;>cases a<;>first | rfl | (simp only;split<;>first | exact fin _ _ _ | rfl)
 | _=>rfl
theorem NY {d sz b:Nat} {x y:RV}:(st.ws g).Bo d sz b x y=(st.Bo d sz b x y).map (iW (some d) g):=by
 unfold St.Bo
 simp only [oU,dX,aG]
 congr 1
 funext p
 obtain ⟨⟨m,t,a⟩,s'⟩:=p
 cases m<;>cases a<;>first | rfl | skip
 simp only [oU,dX,aG]
 congr 1
 funext q
 obtain ⟨⟨m2,t2,a2⟩,s2⟩:=q
 cases m2<;>cases a2<;>first | rfl | skip
 simp only
 split
 ·simp only [Option.map_some,Option.some.injEq]
  exact oV (f:=fun p=> .v false [.own d p.2 0])
 ·rfl
theorem Ji {d:Nat} {ks:List (Option Nat)} {sz b:Nat} {x y:RV}:(st.ws g).append d ks sz b x y=(st.append d ks sz b x y).map (iW (some d) g):=by
 unfold St.append
 rw [NW,NY,Option.map_or]
theorem NZ {d sz:Nat} {ks:List (Option Nat)} {ps:List (Nat×SV)}:(st.ws g).Bq d ks sz ps=(st.Bq d ks sz ps).map (iW (some d) g):=by
 unfold St.Bq
 split
 ·split
  ·simp only [oU,dX,aG]
   congr 1
   funext p
   obtain ⟨⟨m,t,a⟩,s'⟩:=p
   cases m<;>cases a<;>first | rfl | skip
   simp only [Option.map_some,Option.some.injEq]
   exact oV (f:=fun p=> .v false [.own d p.2 0])
  ·rfl
 ·rfl
theorem Xg {x:Operand} (h:∀t,x= .tmp t→g t=st.sl t):(st.ws g).get x=st.get x:=by
 cases x with
 | tmp t=>exact h t rfl
 | _=>rfl
variable {P:Program} {cfg:Cfg} {c:FuncId→List Arg→Option (Res×List Out)} {nt:Nat}
theorem UZ {o:Oper} (h:∀x∈o.op.operands,(st.ws g).get x=st.get x):aF P cfg c nt o (st.ws g)=(aF P cfg c nt o st).map (iW o.dst g):=by
 have one:∀{v:SV},(match o.dst with | none=>some (st.ws g) | some d=>if Nat.blt d nt then some ((st.ws g).aV d v) else none)=
  ((match o.dst with | none=>some st | some d=>if Nat.blt d nt then some (st.aV d v) else none):Option St).map (iW o.dst g):=SE
 have at_:∀{k k':Nat→Option St},(∀d,o.dst=some d→k d=(k' d).map (iW (some d) g))→(o.dst.bind fun d=>if Nat.blt d nt then k d else none)=(o.dst.bind fun d=>if Nat.blt d nt then k' d else none).map (iW o.dst g):=by
  intro k k' hk
  cases hd:o.dst with
  | none=>rfl
  | some d=>
   simp only [Option.bind_some]
   split
   ·exact hk d hd
   ·rfl
 have pairs:∀ps:Array (Nat×Operand),(∀p∈ps.toList,(st.ws g).get p.2=st.get p.2)→(ps.toList.map fun p=>(p.1,(st.ws g).get p.2))=ps.toList.map fun p=>(p.1,st.get p.2):=by
  intro ps hp
  refine List.map_congr_left fun p hm=>?_
  rw [hp p hm]
 cases ho:o.op with
 | move x=>
  rw [ho] at h
  simp only [aF,ho,h x (by simp [Op.operands])]
  exact one
 | assign x=>
  rw [ho] at h
  simp only [aF,ho,h x (by simp [Op.operands])]
  exact at_ fun d hd=>QK
 | pick a x y=>
  rw [ho] at h
  simp only [aF,ho,h a (by simp [Op.operands]),h x (by simp [Op.operands]),h y (by simp [Op.operands]),aG]
  congr 1
  funext t
  exact one
 | alloc t=>
  simp only [aF,ho]
  refine at_ fun d hd=>?_
  simp only [aG]
  congr 1
  funext cs
  congr 1
  funext ks
  simp only [sN,Option.map_map]
  congr 1
  funext p
  exact oV (f:=fun p=> .v false [.mp d p.1 0])
 | box t x=>
  rw [ho] at h
  simp only [aF,ho,h x (by simp [Op.operands])]
  refine at_ fun d hd=>?_
  cases st.get x with
  | v ag cs=>
   simp only [aG]
   congr 1
   funext ks
   simp only [sN,Option.map_map]
   congr 1
   funext p
   exact oV (f:=fun p=> .v false [.mp d p.1 0])
  | _=>rfl
 | build t ps=>
  rw [ho] at h
  have hp:=pairs ps fun p hm=>h p.2 (by have hm':p∈ps:=(by simpa using hm);simp [Op.operands];exact ⟨p.1,hm'⟩)
  simp only [aF,ho,hp,BQ,aG]
  congr 1
  funext zs
  split
  ·simp only [aG]
   congr 1
   funext pl
   congr 1
   funext cs
   exact one
  ·simp only [aG]
   congr 1
   funext inf
   congr 1
   funext cs
   exact one
  ·rfl
 | buildSlice t n ps=>
  rw [ho] at h
  have hp:=pairs ps fun p hm=>h p.2 (by have hm':p∈ps:=(by simpa using hm);simp [Op.operands];exact ⟨p.1,hm'⟩)
  simp only [aF,ho,hp]
  refine at_ fun d hd=>?_
  simp only [aG]
  congr 1
  funext e
  congr 1
  funext ks
  congr 1
  funext _
  split
  ·cases ps.size.beq 1&&cfg.deep nt d with
   | true=>exact NZ
   | false=>
    simp only [cond_false,LW,Option.map_map]
    congr 1
    funext p
    exact oV (f:=fun p=> .v false [.own d p.2 0])
  ·rfl
 | load t x=>
  rw [ho] at h
  simp only [aF,ho,h x (by simp [Op.operands]),aG,UU]
  congr 1
  funext ks
  congr 1
  funext r
  congr 1
  funext v
  exact one
 | store t p x=>
  rw [ho] at h
  simp only [aF,ho,h p (by simp [Op.operands]),h x (by simp [Op.operands])]
  cases hd:o.dst with
  | some d=>rfl
  | none=>
   simp only [Option.isSome_none,Bool.false_eq_true,if_false,aG]
   congr 1
   funext r
   cases st.get x with
   | v ag cs=>
    simp only
    split
    ·simp only [aG,SC]
     rfl
    ·rfl
   | _=>rfl
 | nilCheck x=>
  rw [ho] at h
  have e:(st.ws g).pJ =st.pJ :=funext fun r=>JZ r
  simp only [aF,ho,h x (by simp [Op.operands]),e]
  split
  ·split
   ·exact one
   ·rfl
  ·exact one
  ·rfl
 | binOp op t x y t2=>
  rw [ho] at h
  simp only [aF,ho,h x (by simp [Op.operands]),h y (by simp [Op.operands]),QJ,aG]
  congr 1
  funext v
  exact one
 | unOp op t x=>
  rw [ho] at h
  simp only [aF,ho,h x (by simp [Op.operands]),aG]
  congr 1
  funext v
  exact one
 | convert s t x=>
  rw [ho] at h
  simp only [aF,ho,h x (by simp [Op.operands]),LV]
  split
  ·exact one
  ·exact one
  ·split
   ·simp only [aG]
    congr 1
    funext p
    congr 1
    funext l
    exact one
   ·rfl
  ·rfl
 | fieldAddr s x f=>
  rw [ho] at h
  have e:∀n,(st.ws g).shift n=st.shift n:=fun n=>funext fun r=>LP n r
  simp only [aF,ho,h x (by simp [Op.operands]),e]
  split
  ·simp only [aG]
   congr 1
   funext fd
   split
   ·rfl
   ·simp only [aG]
    congr 1
    funext r
    exact one
  ·rfl
 | indexAddr t x i=>
  rw [ho] at h
  simp only [aF,ho,h x (by simp [Op.operands]),h i (by simp [Op.operands]),aG]
  congr 1
  funext p
  congr 1
  funext i
  congr 1
  funext r
  split
  ·simp only [LU,aG]
   congr 1
   funext inf
   congr 1
   funext r
   exact one
  ·split
   ·simp only [LP,aG]
    congr 1
    funext inf
    congr 1
    funext r
    exact one
   ·rfl
  ·rfl
 | index t x i=>
  rw [ho] at h
  simp only [aF,ho,h x (by simp [Op.operands]),h i (by simp [Op.operands]),aG]
  congr 1
  funext p
  congr 1
  funext i
  split
  ·simp only [aG]
   congr 1
   funext r
   exact one
  ·simp only [aG]
   congr 1
   funext r
   exact one
 | field t x f=>
  rw [ho] at h
  simp only [aF,ho,h x (by simp [Op.operands])]
  split
  ·simp only [aG]
   congr 1
   funext fd
   congr 1
   funext u
   congr 1
   funext v
   exact one
  ·rfl
 | extract x i=>
  rw [ho] at h
  simp only [aF,ho,h x (by simp [Op.operands])]
  split
  ·simp only [aG]
   congr 1
   funext p
   exact one
  ·rfl
 | slice t x lo hi mx=>
  cases mx with
  | some _=>simp [aF,ho]
  | none=>
   rw [ho] at h
   have hl:∀y,lo=some y→(st.ws g).get y=st.get y:=fun y e=>h y (by subst e;simp [Op.operands])
   have hh:∀y,hi=some y→(st.ws g).get y=st.get y:=fun y e=>h y (by subst e;simp [Op.operands])
   have e:∀(sz:Nat) (r:RV) (a b:Option Int),(st.ws g).reslice sz r a b=st.reslice sz r a b:=fun sz r a b=>NU sz r a b
   have body:∀(a b:Option (Option Int)),(a.bind fun lo=>b.bind fun hi=>match P.underlying t,(st.ws g).get x with
    | some .string,.v false [.im _ (.sc (.string s))]=>
     (match lo with | none=>some 0 | some l=>pg l).bind fun l=>(match hi with | none=>some s.size | some h=>pg h).bind fun h=>
       if Nat.ble l h&&Nat.ble h s.size then (match o.dst with | none=>some (st.ws g) | some d=>if Nat.blt d nt then some ((st.ws g).aV d (.im 0 (.sc (.string (s.extract l h))))) else none) else none
    | some (.slice e),.v false [r]=>(P.info? e).bind fun inf=>((st.ws g).reslice inf.size r lo hi).bind fun r=>(match o.dst with | none=>some (st.ws g) | some d=>if Nat.blt d nt then some ((st.ws g).aV d (.v false [r])) else none)
    | _,_=>none)=(a.bind fun lo=>b.bind fun hi=>match P.underlying t,st.get x with
    | some .string,.v false [.im _ (.sc (.string s))]=>
     (match lo with | none=>some 0 | some l=>pg l).bind fun l=>(match hi with | none=>some s.size | some h=>pg h).bind fun h=>
       if Nat.ble l h&&Nat.ble h s.size then (match o.dst with | none=>some st | some d=>if Nat.blt d nt then some (st.aV d (.im 0 (.sc (.string (s.extract l h))))) else none) else none
    | some (.slice e),.v false [r]=>(P.info? e).bind fun inf=>(st.reslice inf.size r lo hi).bind fun r=>(match o.dst with | none=>some st | some d=>if Nat.blt d nt then some (st.aV d (.v false [r])) else none)
    | _,_=>none:Option St).map (iW o.dst g):=by
    intro a b
    simp only [h x (by simp [Op.operands]),e,aG]
    congr 1
    funext lo
    congr 1
    funext hi
    split
    ·simp only [aG]
     congr 1
     funext l
     congr 1
     funext h
     split
     ·exact one
     ·rfl
    ·simp only [aG]
     congr 1
     funext inf
     congr 1
     funext r
     exact one
    ·rfl
   cases lo with
   | none=>
    cases hi with
    | none=>simp only [aF,ho];exact body (some none) (some none)
    | some y=>simp only [aF,ho,hh y rfl];exact body (some none) _
   | some z=>
    cases hi with
    | none=>simp only [aF,ho,hl z rfl];exact body _ (some none)
    | some y=>simp only [aF,ho,hl z rfl,hh y rfl];exact body _ _
 | makeSlice t n m=>
  rw [ho] at h
  simp only [aF,ho,h n (by simp [Op.operands]),h m (by simp [Op.operands])]
  refine at_ fun d hd=>?_
  simp only [aG]
  congr 1
  funext e
  congr 1
  funext zs
  split
  ·rfl
  ·simp only [aG]
   congr 1
   funext ks
   congr 1
   funext a
   congr 1
   funext b
   congr 1
   funext n'
   split
   ·simp only [yh,dX,aG,Option.map_map]
    congr 1
    funext p
    congr 1
    funext z
    exact oV (f:=fun p=> .v false [.own d p.2 0])
   ·rfl
 | makeFunc fn first caps=>
  cases fn with
  | func f=>
   rw [ho] at h
   have hc:(caps.toList.mapM fun c=>((st.ws g).get c).one?)=caps.toList.mapM fun c=>(st.get c).one? :=by
    have:∀l:List Operand,(∀x∈l,(st.ws g).get x=st.get x)→(l.mapM fun c=>((st.ws g).get c).one?)=l.mapM fun c=>(st.get c).one? :=by
     intro l
     induction l with
     | nil=>intro _;rfl
     | cons x l ih=>intro hx;simp only [List.mapM_cons,hx x (by simp),ih fun y hy=>hx y (by simp [hy])]
    exact this _ fun x hx=>h x (by simp [Op.operands];right;simpa using hx)
   simp only [aF,ho,hc]
   split
   ·simp only [aG]
    congr 1
    funext rs
    exact one
   ·rfl
  | _=>simp [aF,ho]
 | call cl=>
  rw [ho] at h
  have ha:cl.args.toList.map (st.ws g).get=cl.args.toList.map st.get:=List.map_congr_left fun x hx=>h x (by simp [Op.operands,Call.operands];right;simpa using hx)
  cases hc:cl.callee with
  | value f=>
   have hf:=h f (by simp [Op.operands,Call.operands,hc])
   simp only [aF,ho,hc,hf,ha]
   split
   ·split
    ·exact O8
    ·rfl
   ·split
    ·exact O8
    ·rfl
   ·rfl
  | builtin b=>
   have e:(st.ws g).len=st.len:=funext fun r=>NT r
   cases b with
   | len=>
    simp only [aF,ho,hc,ha,e]
    split
    ·split
     ·exact one
     ·rfl
    ·split
     ·simp only [aG]
      congr 1
      funext n
      exact one
     ·rfl
    ·rfl
   | min=>
    simp only [aF,ho,hc,ha,aG]
    congr 1
    funext v
    exact one
   | max=>
    simp only [aF,ho,hc,ha,aG]
    congr 1
    funext v
    exact one
   | append=>
    simp only [aF,ho,hc,ha]
    refine at_ fun d hd=>?_
    simp only [aG]
    congr 1
    funext e
    congr 1
    funext zs
    split
    ·rfl
    ·split
     ·exact Ji
     ·exact Ji
     ·rfl
   | _=>simp [aF,ho,hc]
  | _=>simp [aF,ho,hc]
 | _=>simp [aF,ho]
end
end
end Go.Sim
namespace Go.Sim
set_option linter.unusedSimpArgs false
set_option linter.unusedVariables false
section
variable {st s:St}
def Agree (st s:St) (r:RV):Prop:=∀b,r.WW =some b→s.L b=st.L b
theorem BC {o k c:Nat} (h:s.L o=st.L o):s.cell o k c=st.cell o k c:=by simp only [St.cell,h]
theorem SG {o k:Nat} (h:s.L o=st.L o):s.obj o k=st.obj o k:=by simp only [St.obj,h]
theorem U0 {ag:Bool} {n:Nat} {r:RV} (h:Agree st s r):s.load ag n r=st.load ag n r:=by
 cases r with
 | mp o k off=>simp only [St.load,SG (h o rfl)]
 | mpe o k c i off=>simp only [St.load,BC (h o rfl)]
 | im t a=>cases a<;>rfl
 | ws y=>cases y<;>rfl
 | _=>rfl
theorem J3 {r:RV} (h:Agree st s r):s.pJ r=st.pJ r:=by
 cases r with
 | mp o k off=>simp only [St.pJ,SG (h o rfl)]
 | mpe o k c i off=>simp only [St.pJ,BC (h o rfl)]
 | im t a=>
  cases a with
  | sc v=>
   cases v with
   | pointer p=>cases p<;>rfl
   | _=>rfl
  | _=>rfl
 | ws y=>cases y<;>rfl
 | _=>rfl
theorem Xh {r:RV} (h:Agree st s r):s.len r=st.len r:=by
 cases r with
 | own o k c=>simp only [St.len,BC (h o rfl)]
 | sub o k c lo hi=>simp only [St.len,BC (h o rfl)]
 | im t a=>cases a<;>rfl
 | ws y=>cases y<;>rfl
 | _=>rfl
theorem LX {n:Nat} {r:RV} (h:Agree st s r):s.shift n r=st.shift n r:=by simp only [St.shift,J3 h]
theorem LY {sz i:Nat} {r:RV} (h:Agree st s r):s.iZ sz r i=st.iZ sz r i:=by
 cases r with
 | own o k c=>simp only [St.iZ,BC (h o rfl)]
 | sub o k c lo hi=>simp only [St.iZ,BC (h o rfl)]
 | im t a=>cases a<;>rfl
 | ws y=>cases y<;>rfl
 | _=>rfl
theorem SH {ty:Option TypeDesc} {op:BinOp} {x y:SV} (hx:∀r,x= .v false [r]→Agree st s r) (hy:∀r,y= .v false [r]→Agree st s r):binop s ty op x y=binop st ty op x y:=by
 unfold binop
 split
 ·rfl
 ·rfl
 ·rfl
 ·rw [J3 (hx _ rfl),J3 (hy _ rfl)]
 ·rfl
theorem QL {P:Program} {t:TypeId} {op:BinOp} {x y:SV} (hx:∀r,x= .v false [r]→Agree st s r) (hy:∀r,y= .v false [r]→Agree st s r):vM P s t op x y=vM P st t op x y:=by
 unfold vM
 split
 ·rfl
 ·exact SH hx hy
theorem DV {x:SV} {r:RV} (h:x.one? =some r):x= .v false [r]:=by
 unfold SV.one? at h
 split at h
 ·cases h;rfl
 ·cases h
variable {P:Program} {cfg:Cfg} {c:FuncId→List Arg→Option (Res×List Out)} {nt:Nat}
def SI (nt:Nat) (dst:Option Tmp) (v:SV) (s:St):Option St:=match dst with | none=>some s | some d=>if Nat.blt d nt then some (s.aV d v) else none
theorem LZ {o:Oper} (hk:vN o.op=true) {st':St} (e:aF P cfg c nt o st=some st'):
 ∃v,SI nt o.dst v st=some st'∧∀s:St,(∀x∈o.op.operands,s.get x=st.get x)→(∀x∈watch o.op,∀b∈(st.get x).fH,s.L b=st.L b)→aF P cfg c nt o s=SI nt o.dst v s:=by
 have ag:∀{s:St} {x:Operand},(∀x∈watch o.op,∀b∈(st.get x).fH,s.L b=st.L b)→x∈watch o.op→∀r,st.get x= .v false [r]→Agree st s r:=by
  intro s x h hx r e b hb
  exact h x hx b (by rw [e];simp [SV.fH,hb])
 cases ho:o.op with
 | move x=>
  simp only [aF,ho] at e
  refine ⟨st.get x,e,fun s h1 h2=>?_⟩
  simp only [aF,ho,h1 x (by simp [watch,Op.operands])]
  rfl
 | pick a x y=>
  simp only [aF,ho] at e
  obtain ⟨t,ht,e⟩:=Option.bind_eq_some_iff.1 e
  refine ⟨bif t then st.get x else st.get y,e,fun s h1 h2=>?_⟩
  simp only [aF,ho,h1 a (by simp [watch,Op.operands]),h1 x (by simp [watch,Op.operands]),h1 y (by simp [watch,Op.operands]),ht,Option.bind_some]
  rfl
 | load t x=>
  rw [ho] at ag
  simp only [aF,ho] at e
  obtain ⟨ks,hks,e⟩:=Option.bind_eq_some_iff.1 e
  obtain ⟨r,hr,e⟩:=Option.bind_eq_some_iff.1 e
  obtain ⟨v,hv,e⟩:=Option.bind_eq_some_iff.1 e
  refine ⟨v,e,fun s h1 h2=>?_⟩
  simp only [aF,ho,h1 x (by simp [watch,Op.operands]),hks,hr,Option.bind_some,U0 (ag h2 (by simp [watch,Op.operands]) r (DV hr)),hv]
  rfl
 | nilCheck x=>
  rw [ho] at ag
  simp only [aF,ho] at e
  split at e
  ·rename_i r hx
   split at e
   ·rename_i hp
    refine ⟨_,e,fun s h1 h2=>?_⟩
    simp only [aF,ho,h1 x (by simp [watch,Op.operands]),hx,J3 (ag h2 (by simp [watch,Op.operands]) r hx),hp]
    rfl
   ·cases e
  ·rename_i f cs hx
   refine ⟨_,e,fun s h1 h2=>?_⟩
   simp only [aF,ho,h1 x (by simp [watch,Op.operands]),hx]
   rfl
  ·cases e
 | binOp op t x y t2=>
  rw [ho] at ag
  simp only [aF,ho] at e
  obtain ⟨v,hv,e⟩:=Option.bind_eq_some_iff.1 e
  refine ⟨_,e,fun s h1 h2=>?_⟩
  simp only [aF,ho,h1 x (by simp [watch,Op.operands]),h1 y (by simp [watch,Op.operands]),QL (ag (x:=x) h2 (by simp [watch,Op.operands])) (ag (x:=y) h2 (by simp [watch,Op.operands])),hv,Option.bind_some]
  rfl
 | unOp op t x=>
  simp only [aF,ho] at e
  obtain ⟨v,hv,e⟩:=Option.bind_eq_some_iff.1 e
  refine ⟨_,e,fun s h1 h2=>?_⟩
  simp only [aF,ho,h1 x (by simp [watch,Op.operands]),hv,Option.bind_some]
  rfl
 | fieldAddr t x f=>
  rw [ho] at ag
  simp only [aF,ho] at e
  split at e
  ·rename_i fs hu
   obtain ⟨fd,hfd,e⟩:=Option.bind_eq_some_iff.1 e
   split at e
   ·cases e
   ·rename_i hnz
    obtain ⟨r',hr',e⟩:=Option.bind_eq_some_iff.1 e
    obtain ⟨r,hr,hsh⟩:=Option.bind_eq_some_iff.1 hr'
    refine ⟨_,e,fun s h1 h2=>?_⟩
    simp only [aF,ho,hu,hfd,Option.bind_some,if_neg hnz,h1 x (by simp [watch,Op.operands]),hr,LX (ag h2 (by simp [watch,Op.operands]) r (DV hr)),hsh]
    rfl
  ·cases e
 | indexAddr t x i=>
  rw [ho] at ag
  simp only [aF,ho] at e
  obtain ⟨p,hp,e⟩:=Option.bind_eq_some_iff.1 e
  obtain ⟨n,hn,e⟩:=Option.bind_eq_some_iff.1 e
  obtain ⟨r,hr,e⟩:=Option.bind_eq_some_iff.1 e
  split at e
  ·rename_i el hu
   obtain ⟨inf,hi,e⟩:=Option.bind_eq_some_iff.1 e
   obtain ⟨r',hr',e⟩:=Option.bind_eq_some_iff.1 e
   refine ⟨_,e,fun s h1 h2=>?_⟩
   simp only [aF,ho,h1 i (by simp [watch,Op.operands]),h1 x (by simp [watch,Op.operands]),hp,hn,hr,Option.bind_some,hu,hi,LY (ag h2 (by simp [watch,Op.operands]) r (DV hr)),hr']
   rfl
  ·rename_i m el hu
   split at e
   ·rename_i hlt
    obtain ⟨inf,hi,e⟩:=Option.bind_eq_some_iff.1 e
    obtain ⟨r',hr',e⟩:=Option.bind_eq_some_iff.1 e
    refine ⟨_,e,fun s h1 h2=>?_⟩
    simp only [aF,ho,h1 i (by simp [watch,Op.operands]),h1 x (by simp [watch,Op.operands]),hp,hn,hr,Option.bind_some,hu,hlt,if_true,hi,LX (ag h2 (by simp [watch,Op.operands]) r (DV hr)),hr']
    rfl
   ·cases e
  ·cases e
 | extract x i=>
  simp only [aF,ho] at e
  split at e
  ·rename_i vs hx
   obtain ⟨p,hp,e⟩:=Option.bind_eq_some_iff.1 e
   refine ⟨_,e,fun s h1 h2=>?_⟩
   simp only [aF,ho,h1 x (by simp [watch,Op.operands]),hx,hp,Option.bind_some]
   rfl
  ·cases e
 | field t x f=>
  simp only [aF,ho] at e
  split at e
  ·rename_i fs cs hu hx
   obtain ⟨fd,hfd,e⟩:=Option.bind_eq_some_iff.1 e
   obtain ⟨u,hu2,e⟩:=Option.bind_eq_some_iff.1 e
   obtain ⟨v,hv,e⟩:=Option.bind_eq_some_iff.1 e
   refine ⟨_,e,fun s h1 h2=>?_⟩
   simp only [aF,ho,h1 x (by simp [watch,Op.operands]),hu,hx,hfd,Option.bind_some,hu2,hv]
   rfl
  ·cases e
 | index t x i=>
  simp only [aF,ho] at e
  obtain ⟨p,hp,e⟩:=Option.bind_eq_some_iff.1 e
  obtain ⟨n,hn,e⟩:=Option.bind_eq_some_iff.1 e
  split at e
  ·rename_i hu hx
   obtain ⟨b,hb,e⟩:=Option.bind_eq_some_iff.1 e
   refine ⟨_,e,fun s h1 h2=>?_⟩
   simp only [aF,ho,h1 i (by simp [watch,Op.operands]),h1 x (by simp [watch,Op.operands]),hp,hn,Option.bind_some,hu,hx,hb]
   rfl
  ·rename_i hno
   obtain ⟨b,hb,e⟩:=Option.bind_eq_some_iff.1 e
   refine ⟨_,e,fun s h1 h2=>?_⟩
   simp only [aF,ho,h1 i (by simp [watch,Op.operands]),h1 x (by simp [watch,Op.operands]),hp,hn,Option.bind_some,hb]
   rfl
 | call cl=>
  rw [ho] at hk ag
  cases hc:cl.callee with
  | builtin b=>
   cases b with
   | len=>
    have mem:∀x∈cl.args.toList,x∈(Op.call cl).operands:=fun x hx=>by simp [Op.operands,Call.operands];right;simpa using hx
    have ha:∀s:St,(∀x∈(Op.call cl).operands,s.get x=st.get x)→cl.args.toList.map s.get=cl.args.toList.map st.get:=fun s h=>List.map_congr_left fun x hx=>h x (mem x hx)
    simp only [aF,ho,hc] at e
    split at e
    ·rename_i hx
     split at e
     ·rename_i hu
      refine ⟨_,e,fun s h1 h2=>?_⟩
      simp only [aF,ho,hc,ha s h1,hx,hu]
      rfl
     ·cases e
    ·rename_i r hns hx
     split at e
     ·rename_i el hu
      obtain ⟨n,hn,e⟩:=Option.bind_eq_some_iff.1 e
      refine ⟨_,e,fun s h1 h2=>?_⟩
      obtain ⟨y,hy⟩:∃y,cl.args.toList=[y]:=by
       have hl:=congrArg List.length hx
       rw [List.length_map] at hl
       match hcl:cl.args.toList,hl with
       | [y],_=>exact ⟨y,rfl⟩
      have hy2:st.get y= .v false [r]:=by rw [hy] at hx;simpa using hx
      have hag:=ag h2 (show y∈(Op.call cl).operands.toList by simpa using mem y (by rw [hy];simp)) r hy2
      simp only [aF,ho,hc,ha s h1]
      rw [hx]
      split
      ·rename_i h
       cases h
       exact absurd rfl (hns _ _)
      ·rename_i r' _ h
       cases h
       simp only [hu,Xh hag,hn,Option.bind_some]
       rfl
      ·rename_i h1 h2
       exact absurd rfl (h2 r)
     ·cases e
    ·cases e
   | _=>simp [vN,hc] at hk
  | _=>simp [vN,hc] at hk
 | _=>rw [ho] at hk;cases hk
end
end Go.Sim
