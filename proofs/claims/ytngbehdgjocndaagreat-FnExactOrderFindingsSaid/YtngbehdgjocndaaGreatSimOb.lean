/- Operations that only read may be taken first. Conditions: none. -/
import Derived.Test.YtngbehdgjocndaaGreatSimO
namespace Go.Sim
set_option linter.unusedSimpArgs false
set_option linter.unusedVariables false
def St.ws (st:St) (g:Nat→SV):St:={st with sl:=g}
section
variable {st:St} {g:Nat→SV}
theorem wV (o s c:Nat):(st.ws g).cell o s c=st.cell o s c:=rfl
theorem P5 (o s:Nat):(st.ws g).obj o s=st.obj o s:=rfl
theorem MK (o:Nat) (ob:Obj):(st.ws g).setObj o ob=(st.setObj o ob).ws g:=rfl
theorem ZR (sz:Nat) (r:RV):(st.ws g).view sz r=st.view sz r:=by cases r<;>rfl
theorem adv (sz:Nat) (r:RV):(st.ws g).WE sz r=st.WE sz r:=by cases r<;>rfl
theorem abN (r:RV):(st.ws g).freeze r=(st.freeze r).ws g:=by
 cases r with
 | own o s c=>simp only [St.freeze,wV];split<;>rfl
 | sub o s c lo hi=>simp only [St.freeze,wV];split<;>rfl
 | mpe o s c i off=>simp only [St.freeze,wV];split<;>rfl
 | mp o s off=>simp only [St.freeze,P5];split<;>rfl
 | _=>rfl
theorem Yy (sz:Nat) (r:RV):(st.ws g).fix sz r=(st.fix sz r).map fun p=>(p.1,p.2.1,p.2.2.ws g):=by
 simp only [St.fix,ZR,abN,Option.map_map]
 rfl
theorem gq {α β γ:Type} (o:Option α) (f:α→β) (k:β→Option γ):(o.map f).bind k=o.bind fun x=>k (f x):=by cases o<;>rfl
theorem aU {α β γ:Type} (o:Option α) (f:β→γ) (k:α→Option β):(o.bind k).map f=o.bind fun x=>(k x).map f:=by cases o<;>rfl
theorem Em:∀(ks:List (Option Nat)) (rs:List RV) {st:St},(st.ws g).iM ks rs=(st.iM ks rs).map fun p=>(p.1,p.2.1,p.2.2.ws g)
 | ks,[],st=>rfl
 | ks,r::rs,st=>by
  simp only [St.iM,Yy,gq,aU]
  congr 1
  funext p
  rw [Em ks.tail rs]
  simp only [Option.map_map]
  rfl
theorem ve (sz:Nat) (r:RV):(st.ws g).take sz r=(st.take sz r).map fun p=>(p.1,p.2.ws g):=by
 cases r with
 | im t a=>rfl
 | nil=>rfl
 | qC=>rfl
 | fr a=>rfl
 | ws a=>rfl
 | own o s c=>
  simp only [St.take,wV]
  cases st.cell o s c with
  | none=>rfl
  | some p=>obtain ⟨ob,⟨m,s',t,a⟩⟩:=p;cases m<;>rfl
 | sub o s c lo hi=>
  simp only [St.take,wV]
  cases st.cell o s c with
  | none=>rfl
  | some p=>obtain ⟨ob,⟨m,s',t,a⟩⟩:=p;cases m<;>cases a<;>rfl
 | mp o s off=>simp only [St.take,Yy,Option.map_map];rfl
 | mpe o s c i off=>simp only [St.take,Yy,Option.map_map];rfl
 | inr o s c i j n=>
  simp only [St.take,wV]
  cases st.cell o s c with
  | none=>rfl
  | some p=>
   obtain ⟨ob,⟨m,s',t,a⟩⟩:=p
   cases m with
   | dp n'=>
    cases a with
    | row z es=>
     simp only [Option.bind_some]
     split
     ·simp only [aU]
      congr 1
      funext e
      split<;>rfl
     ·rfl
    | _=>rfl
   | _=>rfl
theorem zo:∀(ks:List (Option Nat)) (rs:List RV) {st:St},(st.ws g).fF ks rs=(st.fF ks rs).map fun p=>(p.1,p.2.ws g)
 | ks,[],st=>rfl
 | ks,r::rs,st=>by
  simp only [St.fF,ve,gq,aU]
  congr 1
  funext p
  rw [zo ks.tail rs]
  simp only [Option.map_map]
  rfl
theorem TU (d:Nat) (mem ag:Bool) (cs:List CV):(st.ws g).newObj d mem ag cs=((st.newObj d mem ag cs).1.ws g,(st.newObj d mem ag cs).2):=rfl
theorem agm (ag:Bool) (n:Nat) (x:RV):(st.ws g).load ag n x=st.load ag n x:=by cases x<;>rfl
theorem UW (x:RV):(st.ws g).vW x=st.vW x:=by cases x<;>rfl
theorem Yz (x:RV):(st.ws g).len x=st.len x:=by cases x<;>rfl
theorem WY (n:Nat) (x:RV):(st.ws g).shift n x=st.shift n x:=by simp only [St.shift,UW]
theorem WZ (sz i:Nat) (x:RV):(st.ws g).ji sz x i=st.ji sz x i:=by cases x<;>rfl
theorem YA (sz:Nat) (x:RV) (lo hi:Option Int):(st.ws g).reslice sz x lo hi=st.reslice sz x lo hi:=by
 unfold St.reslice
 simp only [Yz]
 cases x<;>rfl
theorem agn (x:RV):(st.ws g).WG x=st.WG x:=by cases x<;>rfl
theorem agp (o s c:Nat):(st.ws g).Jw o s c=st.Jw o s c:=rfl
theorem W9 (sz:Nat) (x:RV):(st.ws g).elems sz x=st.elems sz x:=by simp only [St.elems,ZR,agn]
theorem adw (ty:Option TypeDesc) (op:BinOp) (x y:SV):binop (st.ws g) ty op x y=binop st ty op x y:=by
 have e:(st.ws g).vW =st.vW :=funext fun r=>UW r
 unfold binop
 rw [e]
theorem abO {P:Program} (t:TypeId) (op:BinOp) (x y:SV):AL P (st.ws g) t op x y=AL P st t op x y:=by
 unfold AL
 split
 ·rfl
 ·rw [adw]
theorem adx (r:RV):(st.ws g).alive r=st.alive r:=by cases r<;>simp only [St.alive,UW,Yz,wV]<;>rfl
theorem Jt (pl:List (Nat×Nat)):∀(xs:List (Nat×SV)) (cs:List RV),qE (st.ws g) pl cs xs=qE st pl cs xs
 | [],cs=>rfl
 | (i,.v ag rs)::r,cs=>by
  have e:(st.ws g).alive=st.alive:=funext fun r=>adx r
  simp only [qE,e]
  congr 1
  funext p
  split
  ·exact Jt pl r _
  ·rfl
 | (i,.fn _ _)::r,cs=>rfl
 | (i,.tup _)::r,cs=>rfl
theorem Xa (ag:Bool) (ks:List (Option Nat)) (sz:Nat):∀(xs:List (Nat×SV)) (k:Nat) {st:St},(st.ws g).parts ag ks sz k xs=(st.parts ag ks sz k xs).map fun p=>(p.1,p.2.1,p.2.2.ws g)
 | [],k,st=>rfl
 | (i,.v ag' cs)::r,k,st=>by
  simp only [St.parts]
  split
  ·simp only [Em,gq,aU]
   congr 1
   funext p
   congr 1
   funext e
   rw [Xa ag ks sz r (k+1)]
   simp only [Option.map_map]
   rfl
  ·rfl
 | (i,.fn _ _)::r,k,st=>rfl
 | (i,.tup _)::r,k,st=>rfl
theorem ady (ks:List (Option Nat)) (x:RV) (cs:List RV):(st.ws g).store ks x cs=(st.store ks x cs).map (·.ws g):=by
 cases x with
 | mp o s off=>
  simp only [St.store,zo,gq,aU]
  congr 1
  funext p
  simp only [P5]
  cases p.2.obj o s with
  | none=>rfl
  | some ob=>simp only [Option.bind_some];split<;>rfl
 | mpe o s c i off=>
  simp only [St.store,agp]
  by_cases hd:st.Jw o s c=true
  ·simp only [if_pos hd,zo,gq,aU]
   congr 1
   funext p
   simp only [wV]
   cases p.2.cell o s c with
   | none=>rfl
   | some q=>
    obtain ⟨ob,⟨m,s',t',a⟩⟩:=q
    cases m with
    | dd n i' j=>
     cases a with
     | row sz es=>
      simp only [Option.bind_some]
      split
      ·split
       ·simp only [aU,Option.map_map];rfl
       ·rfl
      ·rfl
     | _=>rfl
    | _=>rfl
  ·simp only [if_neg hd,Em,gq,aU]
   congr 1
   funext p
   simp only [wV]
   cases p.2.2.cell o s c with
   | none=>rfl
   | some q=>
    obtain ⟨ob,⟨m,s',t',a⟩⟩:=q
    cases m<;>cases a<;>first | rfl | (simp only [Option.bind_some,aU,Option.map_map];rfl)
 | ws a=>
  cases a with
  | cp as off=>
   simp only [St.store]
   split<;>rfl
  | _=>rfl
 | _=>rfl
theorem P6:∀(ks:List (Option Nat)) (rs:List RV),su (st.ws g) ks rs=su st ks rs
 | ks,[]=>rfl
 | ks,r::rs=>by simp only [su,adv,P6 ks.tail rs]
section
variable {P:Program} {cfg:Cfg} {c:FuncId→List Arg→Option (Res×List Out)}
theorem agq (m:PM) (ks:List (Option Nat)) (x:SV):(st.ws g).SE m ks x=(st.SE m ks x).map fun p=>(p.1,p.2.ws g):=by
 unfold St.SE
 split
 ·simp only [Em,gq,aU]
  congr 1
  funext p
  split<;>rfl
 ·simp only [ve,gq,aU]
  congr 1
  funext p
  split
  ·rfl
  ·split<;>rfl
 ·simp only [zo,gq,aU]
  congr 1
  funext p
  split<;>rfl
 ·simp only [P5]
  rename_i o s
  cases st.obj o s with
  | none=>rfl
  | some ob=>simp only [Option.bind_some];split<;>rfl
 ·rfl
theorem P7 (f:FuncId):∀(xs:List (TypeId×SV)) (j:Nat) {st:St},(st.ws g).wS P cfg f j xs=(st.wS P cfg f j xs).map fun p=>(p.1,p.2.ws g)
 | [],j,st=>rfl
 | (t,x)::xs,j,st=>by
  simp only [St.wS,agq,gq,aU]
  congr 1
  funext p
  rw [P7 f xs (j+1)]
  simp only [Option.map_map]
  rfl
theorem aji (m:PM) (ks:List (Option Nat)) (x:SV) (a:Option Arg):(st.ws g).see m ks x a=st.see m ks x a:=by
 cases a with
 | some a=>rfl
 | none=>unfold St.see;simp only [P6,P5,wV]
theorem TV (f:FuncId):∀(xs:List (TypeId×SV)) (as:List (Option Arg)) (j:Nat),(st.ws g).vX P cfg f j xs as=st.vX P cfg f j xs as
 | [],[],j=>rfl
 | [],_::_,j=>rfl
 | (t,x)::xs,[],j=>rfl
 | (t,x)::xs,a::as,j=>by simp only [St.vX,aji,TV f xs as (j+1)]
theorem JF (t:Nat):∀(ls:List (Nat×Nat×Nat)) (os:List Out) {st:St},lK (st.ws g) t ls os=(lK st t ls os).map (·.ws g)
 | [],[],st=>rfl
 | [],_::_,st=>rfl
 | (o,s,c)::ls,[],st=>rfl
 | (o,s,c)::ls,.ptr ag cs::os,st=>by
  simp only [lK,P5,aU,MK]
  congr 1
  funext ob
  exact JF t ls os
 | (o,s,c)::ls,.ow sz es::os,st=>by
  simp only [lK,wV,aU,MK]
  congr 1
  funext ob
  split
  ·exact JF t ls os
  ·rfl
def jJ (dst:Option Tmp) (g:Nat→SV) (s:St):St:=s.ws (match dst with | some d=>upd g d (s.sl d) | none=>g)
theorem xX {d:Nat} {v:SV}:jJ (some d) g (st.cZ d v)=(st.ws g).cZ d v:=by
 simp only [jJ,St.cZ,St.ws,upd_same]
theorem adz {dst:Option Tmp} {nt:Nat} {v:SV}:(match dst with | none=>some (st.ws g) | some d=>if Nat.blt d nt then some ((st.ws g).cZ d v) else none)=
 ((match dst with | none=>some st | some d=>if Nat.blt d nt then some (st.cZ d v) else none):Option St).map (jJ dst g):=by
 cases dst with
 | none=>rfl
 | some d=>
  simp only
  split
  ·simp only [Option.map_some,xX]
  ·rfl
theorem vg {d:Nat} {mem ag:Bool} {cs:List CV} {f:Nat×Nat→SV}:((st.ws g).newObj d mem ag cs).1.cZ d (f ((st.ws g).newObj d mem ag cs).2)=jJ (some d) g ((st.newObj d mem ag cs).1.cZ d (f (st.newObj d mem ag cs).2)):=by
 rw [TU,xX]
theorem abP {d sz:Nat} {x:SV}:(st.ws g).assign d sz x=(st.assign d sz x).map (jJ (some d) g):=by
 have go:∀r:RV,(((st.ws g).take sz r).map fun (x,st)=>
  match x.m with
  | .sh=>(st.newObj d false false [x]).1.cZ d (.v false [.own d (st.newObj d false false [x]).2.2 0])
  | .dp _=>(st.newObj d false false [x]).1.cZ d (.v false [.own d (st.newObj d false false [x]).2.2 0])
  | .ws=>st.cZ d (.v false [.ws x.a])
  | .fr=>st.cZ d (.v false [.fr x.a])
  | _=>st.cZ d (.im x.t x.a))=((st.take sz r).map fun (x,st)=>
  match x.m with
  | .sh=>(st.newObj d false false [x]).1.cZ d (.v false [.own d (st.newObj d false false [x]).2.2 0])
  | .dp _=>(st.newObj d false false [x]).1.cZ d (.v false [.own d (st.newObj d false false [x]).2.2 0])
  | .ws=>st.cZ d (.v false [.ws x.a])
  | .fr=>st.cZ d (.v false [.fr x.a])
  | _=>st.cZ d (.im x.t x.a)).map (jJ (some d) g):=by
  intro r
  rw [ve]
  cases st.take sz r with
  | none=>rfl
  | some p=>
   obtain ⟨⟨m,t,a⟩,s⟩:=p
   simp only [Option.map_some,Option.some.injEq]
   cases m<;>first | exact vg (f:=fun p=> .v false [.own d p.2 0]) | exact xX.symm
 unfold St.assign
 split
 ·split
  ·simp only [Option.map_some,xX]
  ·exact go _
 ·exact go _
 ·exact go _
 ·simp only [Option.map_some,xX]
theorem YB (d:Nat) (cs:List CV):(st.ws g).Dw d cs=(st.Dw d cs).ws g:=by cases cs<;>rfl
theorem TW {dst:Option Tmp} {mt:Nat→Option Nat} {res:Res}:(st.ws g).unpack dst mt res=(st.unpack dst mt res).map (jJ dst g):=by
 cases dst with
 | none=>rfl
 | some d=>
  unfold St.unpack
  simp only
  split
  ·simp only [Option.map_map]
   congr 1
   funext cs
   exact vg (f:=fun p=> .v false [.mp d p.1 0])
  ·simp only [Option.map_map]
   have e:(st.ws g).sG d=st.sG d:=rfl
   rw [e]
   congr 1
   funext q
   simp only [Function.comp,YB,xX]
theorem KQ {P:Program} {cfg:Cfg} {c:FuncId→List Arg→Option (Res×List Out)} {dst:Option Tmp} {f:FuncId} {xs:List (TypeId×SV)}:(st.ws g).wB P cfg c dst f xs=(st.wB P cfg c dst f xs).map (jJ dst g):=by
 unfold St.wB
 simp only [P7,gq,aU]
 congr 1
 funext pre
 simp only [TV]
 congr 1
 funext p
 split
 ·rfl
 ·simp only [aU]
  congr 1
  funext r
  split
  ·simp only [gq,aU]
   congr 1
   funext s
   exact TW
  split
  ·simp only [aU]
   congr 1
   funext q
   cases dst with
   | none=>rfl
   | some d=>simp only [Option.map_some,xX]
  ·simp only [JF,gq,aU]
   congr 1
   funext s
   exact TW
theorem JG {P:Program} {cfg:Cfg} {c:FuncId→List Arg→Option (Res×List Out)} {d:Nat} {f:FuncId} {o s cc i j n:Nat}:(st.ws g).wU P cfg c d f o s cc i j n=(st.wU P cfg c d f o s cc i j n).map (jJ (some d) g):=by
 unfold St.wU
 simp only [ve,gq,aU]
 congr 1
 funext q
 obtain ⟨⟨m,t,a⟩,s1⟩:=q
 cases m<;>cases a<;>first | rfl | skip
 simp only [TU,KQ,gq,aU]
 congr 1
 funext st2
 have e:jJ none g st2=st2.ws g:=rfl
 simp only [e,ve,gq,aU]
 congr 1
 funext y
 obtain ⟨⟨m,t,a⟩,s2⟩:=y
 cases m<;>cases a<;>first | rfl | skip
 simp only [wV,aU]
 congr 1
 funext x
 obtain ⟨ob,m,s',t',a⟩:=x
 cases m<;>cases a<;>first | rfl | skip
 simp only
 split
 ·simp only [aU]
  congr 1
  funext e
  simp only [Option.map_map]
  congr 1
  funext e'
  simp only [Function.comp,xX,MK]
 ·rfl
theorem ZT {P:Program} {cfg:Cfg} {c:FuncId→List Arg→Option (Res×List Out)} {dst:Option Tmp} {f:FuncId} {xs:List (TypeId×SV)}:(st.ws g).call P cfg c dst f xs=(st.call P cfg c dst f xs).map (jJ dst g):=by
 unfold St.call
 rw [KQ,Option.map_or]
 congr 1
 split
 ·exact JG
 ·rfl
theorem YC {d:Nat} {ks:List (Option Nat)} {sz b:Nat} {x y:RV}:(st.ws g).BA d ks sz b x y=(st.BA d ks sz b x y).map (jJ (some d) g):=by
 unfold St.BA
 simp only [W9,aU]
 congr 1
 funext p
 obtain ⟨ty,ys⟩:=p
 simp only
 have fin:∀(t:Nat) (es:List AV) (st:St),(if room (es.length+ys.length) b then some (((st.ws g).newObj d false false [⟨.sh,Nat.max t (fK ks ty ys),.row sz (es++ys)⟩]).1.cZ d (.v false [.own d ((st.ws g).newObj d false false [⟨.sh,Nat.max t (fK ks ty ys),.row sz (es++ys)⟩]).2.2 0])) else none:Option St)=
  (if room (es.length+ys.length) b then some ((st.newObj d false false [⟨.sh,Nat.max t (fK ks ty ys),.row sz (es++ys)⟩]).1.cZ d (.v false [.own d (st.newObj d false false [⟨.sh,Nat.max t (fK ks ty ys),.row sz (es++ys)⟩]).2.2 0])) else none:Option St).map (jJ (some d) g):=by
  intro t es st
  split
  ·simp only [Option.map_some,Option.some.injEq]
   exact vg (f:=fun p=> .v false [.own d p.2 0])
  ·rfl
 cases x with
 | nil=>exact fin 0 [] st
 | own o s c'=>
  simp only [ve,gq,aU]
  congr 1
  funext q
  obtain ⟨⟨m,t,a⟩,s'⟩:=q
  cases m<;>cases a<;>first | rfl | (simp only;split<;>first | exact fin _ _ _ | rfl)
 | sub o s c' lo hi=>
  cases lo with
  | zero=>
   simp only [ve,gq,aU]
   congr 1
   funext q
   obtain ⟨⟨m,t,a⟩,s'⟩:=q
   cases m<;>cases a<;>first | rfl | (simp only;split<;>first | exact fin _ _ _ | rfl)
  | succ n=>rfl
 | inr o s c' i j n=>
  simp only [ve,gq,aU]
  congr 1
  funext q
  obtain ⟨⟨m,t,a⟩,s'⟩:=q
  cases m<;>cases a<;>first | rfl | (simp only;split<;>first | exact fin _ _ _ | rfl)
 | _=>rfl
theorem YD {d sz b:Nat} {x y:RV}:(st.ws g).IC d sz b x y=(st.IC d sz b x y).map (jJ (some d) g):=by
 unfold St.IC
 simp only [ve,gq,aU]
 congr 1
 funext p
 obtain ⟨⟨m,t,a⟩,s'⟩:=p
 cases m<;>cases a<;>first | rfl | skip
 simp only [ve,gq,aU]
 congr 1
 funext q
 obtain ⟨⟨m2,t2,a2⟩,s2⟩:=q
 cases m2<;>cases a2<;>first | rfl | skip
 simp only
 split
 ·simp only [Option.map_some,Option.some.injEq]
  exact vg (f:=fun p=> .v false [.own d p.2 0])
 ·rfl
theorem TY {d:Nat} {ks:List (Option Nat)} {sz b:Nat} {x y:RV}:(st.ws g).append d ks sz b x y=(st.append d ks sz b x y).map (jJ (some d) g):=by
 unfold St.append
 rw [YC,YD,Option.map_or]
theorem YE {d sz:Nat} {ks:List (Option Nat)} {ps:List (Nat×SV)}:(st.ws g).IE d ks sz ps=(st.IE d ks sz ps).map (jJ (some d) g):=by
 unfold St.IE
 split
 ·split
  ·simp only [ve,gq,aU]
   congr 1
   funext p
   obtain ⟨⟨m,t,a⟩,s'⟩:=p
   cases m<;>cases a<;>first | rfl | skip
   simp only [Option.map_some,Option.some.injEq]
   exact vg (f:=fun p=> .v false [.own d p.2 0])
  ·rfl
 ·rfl
theorem ajj {x:Operand} (h:∀t,x= .tmp t→g t=st.sl t):(st.ws g).get x=st.get x:=by
 cases x with
 | tmp t=>exact h t rfl
 | _=>rfl
variable {P:Program} {cfg:Cfg} {c:FuncId→List Arg→Option (Res×List Out)} {nt:Nat}
theorem agr {o:Oper} (h:∀x∈o.op.operands,(st.ws g).get x=st.get x):aH P cfg c nt o (st.ws g)=(aH P cfg c nt o st).map (jJ o.dst g):=by
 have one:∀{v:SV},(match o.dst with | none=>some (st.ws g) | some d=>if Nat.blt d nt then some ((st.ws g).cZ d v) else none)=
  ((match o.dst with | none=>some st | some d=>if Nat.blt d nt then some (st.cZ d v) else none):Option St).map (jJ o.dst g):=adz
 have at_:∀{k k':Nat→Option St},(∀d,o.dst=some d→k d=(k' d).map (jJ (some d) g))→(o.dst.bind fun d=>if Nat.blt d nt then k d else none)=(o.dst.bind fun d=>if Nat.blt d nt then k' d else none).map (jJ o.dst g):=by
  intro k k' hk
  cases hd:o.dst with
  | none=>rfl
  | some d=>
   simp only [Option.bind_some]
   split
   ·exact hk d hd
   ·rfl
 have pairs:∀ps:Array (Nat×Operand),(∀p∈ps.toList,(st.ws g).get p.2=st.get p.2)→(ps.toList.map fun p=>(p.1,(st.ws g).get p.2))=ps.toList.map fun p=>(p.1,st.get p.2):=by
  intro ps hp
  refine List.map_congr_left fun p hm=>?_
  rw [hp p hm]
 cases ho:o.op with
 | move x=>
  rw [ho] at h
  simp only [aH,ho,h x (by simp [Op.operands])]
  exact one
 | assign x=>
  rw [ho] at h
  simp only [aH,ho,h x (by simp [Op.operands])]
  exact at_ fun d hd=>abP
 | pick a x y=>
  rw [ho] at h
  simp only [aH,ho,h a (by simp [Op.operands]),h x (by simp [Op.operands]),h y (by simp [Op.operands]),aU]
  congr 1
  funext t
  exact one
 | alloc t=>
  simp only [aH,ho]
  refine at_ fun d hd=>?_
  simp only [aU]
  congr 1
  funext cs
  congr 1
  funext ks
  simp only [zo,Option.map_map]
  congr 1
  funext p
  exact vg (f:=fun p=> .v false [.mp d p.1 0])
 | box t x=>
  rw [ho] at h
  simp only [aH,ho,h x (by simp [Op.operands])]
  refine at_ fun d hd=>?_
  cases st.get x with
  | v ag cs=>
   simp only [aU]
   congr 1
   funext ks
   simp only [zo,Option.map_map]
   congr 1
   funext p
   exact vg (f:=fun p=> .v false [.mp d p.1 0])
  | _=>rfl
 | build t ps=>
  rw [ho] at h
  have hp:=pairs ps fun p hm=>h p.2 (by have hm':p∈ps:=(by simpa using hm);simp [Op.operands];exact ⟨p.1,hm'⟩)
  simp only [aH,ho,hp,Jt,aU]
  congr 1
  funext zs
  split
  ·simp only [aU]
   congr 1
   funext pl
   congr 1
   funext cs
   exact one
  ·simp only [aU]
   congr 1
   funext inf
   congr 1
   funext cs
   exact one
  ·rfl
 | buildSlice t n ps=>
  rw [ho] at h
  have hp:=pairs ps fun p hm=>h p.2 (by have hm':p∈ps:=(by simpa using hm);simp [Op.operands];exact ⟨p.1,hm'⟩)
  simp only [aH,ho,hp]
  refine at_ fun d hd=>?_
  simp only [aU]
  congr 1
  funext e
  congr 1
  funext ks
  congr 1
  funext _
  split
  ·cases ps.size.beq 1&&cfg.deep nt d with
   | true=>exact YE
   | false=>
    simp only [cond_false,Xa,Option.map_map]
    congr 1
    funext p
    exact vg (f:=fun p=> .v false [.own d p.2 0])
  ·rfl
 | load t x=>
  rw [ho] at h
  simp only [aH,ho,h x (by simp [Op.operands]),aU,agm]
  congr 1
  funext ks
  congr 1
  funext r
  congr 1
  funext v
  exact one
 | store t p x=>
  rw [ho] at h
  simp only [aH,ho,h p (by simp [Op.operands]),h x (by simp [Op.operands])]
  cases hd:o.dst with
  | some d=>rfl
  | none=>
   simp only [Option.isSome_none,Bool.false_eq_true,if_false,aU]
   congr 1
   funext r
   cases st.get x with
   | v ag cs=>
    simp only
    split
    ·simp only [aU,ady]
     rfl
    ·rfl
   | _=>rfl
 | nilCheck x=>
  rw [ho] at h
  have e:(st.ws g).vW =st.vW :=funext fun r=>UW r
  simp only [aH,ho,h x (by simp [Op.operands]),e]
  split
  ·split
   ·exact one
   ·rfl
  ·exact one
  ·rfl
 | binOp op t x y t2=>
  rw [ho] at h
  simp only [aH,ho,h x (by simp [Op.operands]),h y (by simp [Op.operands]),abO,aU]
  congr 1
  funext v
  exact one
 | unOp op t x=>
  rw [ho] at h
  simp only [aH,ho,h x (by simp [Op.operands]),aU]
  congr 1
  funext v
  exact one
 | convert s t x=>
  rw [ho] at h
  simp only [aH,ho,h x (by simp [Op.operands]),W9]
  split
  ·exact one
  ·exact one
  ·split
   ·simp only [aU]
    congr 1
    funext p
    congr 1
    funext l
    exact one
   ·rfl
  ·rfl
 | fieldAddr s x f=>
  rw [ho] at h
  have e:∀n,(st.ws g).shift n=st.shift n:=fun n=>funext fun r=>WY n r
  simp only [aH,ho,h x (by simp [Op.operands]),e]
  split
  ·simp only [aU]
   congr 1
   funext fd
   split
   ·rfl
   ·simp only [aU]
    congr 1
    funext r
    exact one
  ·rfl
 | indexAddr t x i=>
  rw [ho] at h
  simp only [aH,ho,h x (by simp [Op.operands]),h i (by simp [Op.operands]),aU]
  congr 1
  funext p
  congr 1
  funext i
  congr 1
  funext r
  split
  ·simp only [WZ,aU]
   congr 1
   funext inf
   congr 1
   funext r
   exact one
  ·split
   ·simp only [WY,aU]
    congr 1
    funext inf
    congr 1
    funext r
    exact one
   ·rfl
  ·rfl
 | index t x i=>
  rw [ho] at h
  simp only [aH,ho,h x (by simp [Op.operands]),h i (by simp [Op.operands]),aU]
  congr 1
  funext p
  congr 1
  funext i
  split
  ·simp only [aU]
   congr 1
   funext r
   exact one
  ·simp only [aU]
   congr 1
   funext r
   exact one
 | field t x f=>
  rw [ho] at h
  simp only [aH,ho,h x (by simp [Op.operands])]
  split
  ·simp only [aU]
   congr 1
   funext fd
   congr 1
   funext u
   congr 1
   funext v
   exact one
  ·rfl
 | extract x i=>
  rw [ho] at h
  simp only [aH,ho,h x (by simp [Op.operands])]
  split
  ·simp only [aU]
   congr 1
   funext p
   exact one
  ·rfl
 | slice t x lo hi mx=>
  cases mx with
  | some _=>simp [aH,ho]
  | none=>
   rw [ho] at h
   have hl:∀y,lo=some y→(st.ws g).get y=st.get y:=fun y e=>h y (by subst e;simp [Op.operands])
   have hh:∀y,hi=some y→(st.ws g).get y=st.get y:=fun y e=>h y (by subst e;simp [Op.operands])
   have e:∀(sz:Nat) (r:RV) (a b:Option Int),(st.ws g).reslice sz r a b=st.reslice sz r a b:=fun sz r a b=>YA sz r a b
   have body:∀(a b:Option (Option Int)),(a.bind fun lo=>b.bind fun hi=>match P.underlying t,(st.ws g).get x with
    | some .string,.v false [.im _ (.sc (.string s))]=>
     (match lo with | none=>some 0 | some l=>vU l).bind fun l=>(match hi with | none=>some s.size | some h=>vU h).bind fun h=>
       if Nat.ble l h&&Nat.ble h s.size then (match o.dst with | none=>some (st.ws g) | some d=>if Nat.blt d nt then some ((st.ws g).cZ d (.im 0 (.sc (.string (s.extract l h))))) else none) else none
    | some (.slice e),.v false [r]=>(P.info? e).bind fun inf=>((st.ws g).reslice inf.size r lo hi).bind fun r=>(match o.dst with | none=>some (st.ws g) | some d=>if Nat.blt d nt then some ((st.ws g).cZ d (.v false [r])) else none)
    | _,_=>none)=(a.bind fun lo=>b.bind fun hi=>match P.underlying t,st.get x with
    | some .string,.v false [.im _ (.sc (.string s))]=>
     (match lo with | none=>some 0 | some l=>vU l).bind fun l=>(match hi with | none=>some s.size | some h=>vU h).bind fun h=>
       if Nat.ble l h&&Nat.ble h s.size then (match o.dst with | none=>some st | some d=>if Nat.blt d nt then some (st.cZ d (.im 0 (.sc (.string (s.extract l h))))) else none) else none
    | some (.slice e),.v false [r]=>(P.info? e).bind fun inf=>(st.reslice inf.size r lo hi).bind fun r=>(match o.dst with | none=>some st | some d=>if Nat.blt d nt then some (st.cZ d (.v false [r])) else none)
    | _,_=>none:Option St).map (jJ o.dst g):=by
    intro a b
    simp only [h x (by simp [Op.operands]),e,aU]
    congr 1
    funext lo
    congr 1
    funext hi
    split
    ·simp only [aU]
     congr 1
     funext l
     congr 1
     funext h
     split
     ·exact one
     ·rfl
    ·simp only [aU]
     congr 1
     funext inf
     congr 1
     funext r
     exact one
    ·rfl
   cases lo with
   | none=>
    cases hi with
    | none=>simp only [aH,ho];exact body (some none) (some none)
    | some y=>simp only [aH,ho,hh y rfl];exact body (some none) _
   | some z=>
    cases hi with
    | none=>simp only [aH,ho,hl z rfl];exact body _ (some none)
    | some y=>simp only [aH,ho,hl z rfl,hh y rfl];exact body _ _
 | makeSlice t n m=>
  rw [ho] at h
  simp only [aH,ho,h n (by simp [Op.operands]),h m (by simp [Op.operands])]
  refine at_ fun d hd=>?_
  simp only [aU]
  congr 1
  funext e
  congr 1
  funext zs
  split
  ·rfl
  ·simp only [aU]
   congr 1
   funext ks
   congr 1
   funext a
   congr 1
   funext b
   congr 1
   funext n'
   split
   ·simp only [Em,gq,aU,Option.map_map]
    congr 1
    funext p
    congr 1
    funext z
    exact vg (f:=fun p=> .v false [.own d p.2 0])
   ·rfl
 | makeFunc fn first caps=>
  cases fn with
  | func f=>
   rw [ho] at h
   have hc:(caps.toList.mapM fun c=>((st.ws g).get c).one?)=caps.toList.mapM fun c=>(st.get c).one? :=by
    have:∀l:List Operand,(∀x∈l,(st.ws g).get x=st.get x)→(l.mapM fun c=>((st.ws g).get c).one?)=l.mapM fun c=>(st.get c).one? :=by
     intro l
     induction l with
     | nil=>intro _;rfl
     | cons x l ih=>intro hx;simp only [List.mapM_cons,hx x (by simp),ih fun y hy=>hx y (by simp [hy])]
    exact this _ fun x hx=>h x (by simp [Op.operands];right;simpa using hx)
   simp only [aH,ho,hc]
   split
   ·simp only [aU]
    congr 1
    funext rs
    exact one
   ·rfl
  | _=>simp [aH,ho]
 | call cl=>
  rw [ho] at h
  have ha:cl.args.toList.map (st.ws g).get=cl.args.toList.map st.get:=List.map_congr_left fun x hx=>h x (by simp [Op.operands,Call.operands];right;simpa using hx)
  cases hc:cl.callee with
  | value f=>
   have hf:=h f (by simp [Op.operands,Call.operands,hc])
   simp only [aH,ho,hc,hf,ha]
   split
   ·split
    ·exact ZT
    ·rfl
   ·split
    ·exact ZT
    ·rfl
   ·rfl
  | builtin b=>
   have e:(st.ws g).len=st.len:=funext fun r=>Yz r
   cases b with
   | len=>
    simp only [aH,ho,hc,ha,e]
    split
    ·split
     ·exact one
     ·rfl
    ·split
     ·simp only [aU]
      congr 1
      funext n
      exact one
     ·rfl
    ·rfl
   | min=>
    simp only [aH,ho,hc,ha,aU]
    congr 1
    funext v
    exact one
   | max=>
    simp only [aH,ho,hc,ha,aU]
    congr 1
    funext v
    exact one
   | append=>
    simp only [aH,ho,hc,ha]
    refine at_ fun d hd=>?_
    simp only [aU]
    congr 1
    funext e
    congr 1
    funext zs
    split
    ·rfl
    ·split
     ·exact TY
     ·exact TY
     ·rfl
   | _=>simp [aH,ho,hc]
  | _=>simp [aH,ho,hc]
 | _=>simp [aH,ho]
end
end
end Go.Sim
namespace Go.Sim
set_option linter.unusedSimpArgs false
set_option linter.unusedVariables false
section
variable {st s:St}
def Agree (st s:St) (r:RV):Prop:=∀b,r.ai7 =some b→s.L b=st.L b
theorem IM {o k c:Nat} (h:s.L o=st.L o):s.cell o k c=st.cell o k c:=by simp only [St.cell,h]
theorem adA {o k:Nat} (h:s.L o=st.L o):s.obj o k=st.obj o k:=by simp only [St.obj,h]
theorem ags {ag:Bool} {n:Nat} {r:RV} (h:Agree st s r):s.load ag n r=st.load ag n r:=by
 cases r with
 | mp o k off=>simp only [St.load,adA (h o rfl)]
 | mpe o k c i off=>simp only [St.load,IM (h o rfl)]
 | im t a=>cases a<;>rfl
 | ws y=>cases y<;>rfl
 | _=>rfl
theorem UX {r:RV} (h:Agree st s r):s.vW r=st.vW r:=by
 cases r with
 | mp o k off=>simp only [St.vW,adA (h o rfl)]
 | mpe o k c i off=>simp only [St.vW,IM (h o rfl)]
 | im t a=>
  cases a with
  | sc v=>
   cases v with
   | pointer p=>cases p<;>rfl
   | _=>rfl
  | _=>rfl
 | ws y=>cases y<;>rfl
 | _=>rfl
theorem ajk {r:RV} (h:Agree st s r):s.len r=st.len r:=by
 cases r with
 | own o k c=>simp only [St.len,IM (h o rfl)]
 | sub o k c lo hi=>simp only [St.len,IM (h o rfl)]
 | im t a=>cases a<;>rfl
 | ws y=>cases y<;>rfl
 | _=>rfl
theorem Xb {n:Nat} {r:RV} (h:Agree st s r):s.shift n r=st.shift n r:=by simp only [St.shift,UX h]
theorem Xc {sz i:Nat} {r:RV} (h:Agree st s r):s.ji sz r i=st.ji sz r i:=by
 cases r with
 | own o k c=>simp only [St.ji,IM (h o rfl)]
 | sub o k c lo hi=>simp only [St.ji,IM (h o rfl)]
 | im t a=>cases a<;>rfl
 | ws y=>cases y<;>rfl
 | _=>rfl
theorem adB {ty:Option TypeDesc} {op:BinOp} {x y:SV} (hx:∀r,x= .v false [r]→Agree st s r) (hy:∀r,y= .v false [r]→Agree st s r):binop s ty op x y=binop st ty op x y:=by
 unfold binop
 split
 ·rfl
 ·rfl
 ·rfl
 ·rw [UX (hx _ rfl),UX (hy _ rfl)]
 ·rfl
theorem abQ {P:Program} {t:TypeId} {op:BinOp} {x y:SV} (hx:∀r,x= .v false [r]→Agree st s r) (hy:∀r,y= .v false [r]→Agree st s r):AL P s t op x y=AL P st t op x y:=by
 unfold AL
 split
 ·rfl
 ·exact adB hx hy
theorem KR {x:SV} {r:RV} (h:x.one? =some r):x= .v false [r]:=by
 unfold SV.one? at h
 split at h
 ·cases h;rfl
 ·cases h
variable {P:Program} {cfg:Cfg} {c:FuncId→List Arg→Option (Res×List Out)} {nt:Nat}
def adC (nt:Nat) (dst:Option Tmp) (v:SV) (s:St):Option St:=match dst with | none=>some s | some d=>if Nat.blt d nt then some (s.cZ d v) else none
theorem Xd {o:Oper} (hk:BZ o.op=true) {st':St} (e:aH P cfg c nt o st=some st'):
 ∃v,adC nt o.dst v st=some st'∧∀s:St,(∀x∈o.op.operands,s.get x=st.get x)→(∀x∈watch o.op,∀b∈(st.get x).iJ,s.L b=st.L b)→aH P cfg c nt o s=adC nt o.dst v s:=by
 have ag:∀{s:St} {x:Operand},(∀x∈watch o.op,∀b∈(st.get x).iJ,s.L b=st.L b)→x∈watch o.op→∀r,st.get x= .v false [r]→Agree st s r:=by
  intro s x h hx r e b hb
  exact h x hx b (by rw [e];simp [SV.iJ,hb])
 cases ho:o.op with
 | move x=>
  simp only [aH,ho] at e
  refine ⟨st.get x,e,fun s h1 h2=>?_⟩
  simp only [aH,ho,h1 x (by simp [watch,Op.operands])]
  rfl
 | pick a x y=>
  simp only [aH,ho] at e
  obtain ⟨t,ht,e⟩:=Option.bind_eq_some_iff.1 e
  refine ⟨bif t then st.get x else st.get y,e,fun s h1 h2=>?_⟩
  simp only [aH,ho,h1 a (by simp [watch,Op.operands]),h1 x (by simp [watch,Op.operands]),h1 y (by simp [watch,Op.operands]),ht,Option.bind_some]
  rfl
 | load t x=>
  rw [ho] at ag
  simp only [aH,ho] at e
  obtain ⟨ks,hks,e⟩:=Option.bind_eq_some_iff.1 e
  obtain ⟨r,hr,e⟩:=Option.bind_eq_some_iff.1 e
  obtain ⟨v,hv,e⟩:=Option.bind_eq_some_iff.1 e
  refine ⟨v,e,fun s h1 h2=>?_⟩
  simp only [aH,ho,h1 x (by simp [watch,Op.operands]),hks,hr,Option.bind_some,ags (ag h2 (by simp [watch,Op.operands]) r (KR hr)),hv]
  rfl
 | nilCheck x=>
  rw [ho] at ag
  simp only [aH,ho] at e
  split at e
  ·rename_i r hx
   split at e
   ·rename_i hp
    refine ⟨_,e,fun s h1 h2=>?_⟩
    simp only [aH,ho,h1 x (by simp [watch,Op.operands]),hx,UX (ag h2 (by simp [watch,Op.operands]) r hx),hp]
    rfl
   ·cases e
  ·rename_i f cs hx
   refine ⟨_,e,fun s h1 h2=>?_⟩
   simp only [aH,ho,h1 x (by simp [watch,Op.operands]),hx]
   rfl
  ·cases e
 | binOp op t x y t2=>
  rw [ho] at ag
  simp only [aH,ho] at e
  obtain ⟨v,hv,e⟩:=Option.bind_eq_some_iff.1 e
  refine ⟨_,e,fun s h1 h2=>?_⟩
  simp only [aH,ho,h1 x (by simp [watch,Op.operands]),h1 y (by simp [watch,Op.operands]),abQ (ag (x:=x) h2 (by simp [watch,Op.operands])) (ag (x:=y) h2 (by simp [watch,Op.operands])),hv,Option.bind_some]
  rfl
 | unOp op t x=>
  simp only [aH,ho] at e
  obtain ⟨v,hv,e⟩:=Option.bind_eq_some_iff.1 e
  refine ⟨_,e,fun s h1 h2=>?_⟩
  simp only [aH,ho,h1 x (by simp [watch,Op.operands]),hv,Option.bind_some]
  rfl
 | fieldAddr t x f=>
  rw [ho] at ag
  simp only [aH,ho] at e
  split at e
  ·rename_i fs hu
   obtain ⟨fd,hfd,e⟩:=Option.bind_eq_some_iff.1 e
   split at e
   ·cases e
   ·rename_i hnz
    obtain ⟨r',hr',e⟩:=Option.bind_eq_some_iff.1 e
    obtain ⟨r,hr,hsh⟩:=Option.bind_eq_some_iff.1 hr'
    refine ⟨_,e,fun s h1 h2=>?_⟩
    simp only [aH,ho,hu,hfd,Option.bind_some,if_neg hnz,h1 x (by simp [watch,Op.operands]),hr,Xb (ag h2 (by simp [watch,Op.operands]) r (KR hr)),hsh]
    rfl
  ·cases e
 | indexAddr t x i=>
  rw [ho] at ag
  simp only [aH,ho] at e
  obtain ⟨p,hp,e⟩:=Option.bind_eq_some_iff.1 e
  obtain ⟨n,hn,e⟩:=Option.bind_eq_some_iff.1 e
  obtain ⟨r,hr,e⟩:=Option.bind_eq_some_iff.1 e
  split at e
  ·rename_i el hu
   obtain ⟨inf,hi,e⟩:=Option.bind_eq_some_iff.1 e
   obtain ⟨r',hr',e⟩:=Option.bind_eq_some_iff.1 e
   refine ⟨_,e,fun s h1 h2=>?_⟩
   simp only [aH,ho,h1 i (by simp [watch,Op.operands]),h1 x (by simp [watch,Op.operands]),hp,hn,hr,Option.bind_some,hu,hi,Xc (ag h2 (by simp [watch,Op.operands]) r (KR hr)),hr']
   rfl
  ·rename_i m el hu
   split at e
   ·rename_i hlt
    obtain ⟨inf,hi,e⟩:=Option.bind_eq_some_iff.1 e
    obtain ⟨r',hr',e⟩:=Option.bind_eq_some_iff.1 e
    refine ⟨_,e,fun s h1 h2=>?_⟩
    simp only [aH,ho,h1 i (by simp [watch,Op.operands]),h1 x (by simp [watch,Op.operands]),hp,hn,hr,Option.bind_some,hu,hlt,if_true,hi,Xb (ag h2 (by simp [watch,Op.operands]) r (KR hr)),hr']
    rfl
   ·cases e
  ·cases e
 | extract x i=>
  simp only [aH,ho] at e
  split at e
  ·rename_i vs hx
   obtain ⟨p,hp,e⟩:=Option.bind_eq_some_iff.1 e
   refine ⟨_,e,fun s h1 h2=>?_⟩
   simp only [aH,ho,h1 x (by simp [watch,Op.operands]),hx,hp,Option.bind_some]
   rfl
  ·cases e
 | field t x f=>
  simp only [aH,ho] at e
  split at e
  ·rename_i fs cs hu hx
   obtain ⟨fd,hfd,e⟩:=Option.bind_eq_some_iff.1 e
   obtain ⟨u,hu2,e⟩:=Option.bind_eq_some_iff.1 e
   obtain ⟨v,hv,e⟩:=Option.bind_eq_some_iff.1 e
   refine ⟨_,e,fun s h1 h2=>?_⟩
   simp only [aH,ho,h1 x (by simp [watch,Op.operands]),hu,hx,hfd,Option.bind_some,hu2,hv]
   rfl
  ·cases e
 | index t x i=>
  simp only [aH,ho] at e
  obtain ⟨p,hp,e⟩:=Option.bind_eq_some_iff.1 e
  obtain ⟨n,hn,e⟩:=Option.bind_eq_some_iff.1 e
  split at e
  ·rename_i hu hx
   obtain ⟨b,hb,e⟩:=Option.bind_eq_some_iff.1 e
   refine ⟨_,e,fun s h1 h2=>?_⟩
   simp only [aH,ho,h1 i (by simp [watch,Op.operands]),h1 x (by simp [watch,Op.operands]),hp,hn,Option.bind_some,hu,hx,hb]
   rfl
  ·rename_i hno
   obtain ⟨b,hb,e⟩:=Option.bind_eq_some_iff.1 e
   refine ⟨_,e,fun s h1 h2=>?_⟩
   simp only [aH,ho,h1 i (by simp [watch,Op.operands]),h1 x (by simp [watch,Op.operands]),hp,hn,Option.bind_some,hb]
   rfl
 | call cl=>
  rw [ho] at hk ag
  cases hc:cl.callee with
  | builtin b=>
   cases b with
   | len=>
    have mem:∀x∈cl.args.toList,x∈(Op.call cl).operands:=fun x hx=>by simp [Op.operands,Call.operands];right;simpa using hx
    have ha:∀s:St,(∀x∈(Op.call cl).operands,s.get x=st.get x)→cl.args.toList.map s.get=cl.args.toList.map st.get:=fun s h=>List.map_congr_left fun x hx=>h x (mem x hx)
    simp only [aH,ho,hc] at e
    split at e
    ·rename_i hx
     split at e
     ·rename_i hu
      refine ⟨_,e,fun s h1 h2=>?_⟩
      simp only [aH,ho,hc,ha s h1,hx,hu]
      rfl
     ·cases e
    ·rename_i r hns hx
     split at e
     ·rename_i el hu
      obtain ⟨n,hn,e⟩:=Option.bind_eq_some_iff.1 e
      refine ⟨_,e,fun s h1 h2=>?_⟩
      obtain ⟨y,hy⟩:∃y,cl.args.toList=[y]:=by
       have hl:=congrArg List.length hx
       rw [List.length_map] at hl
       match hcl:cl.args.toList,hl with
       | [y],_=>exact ⟨y,rfl⟩
      have hy2:st.get y= .v false [r]:=by rw [hy] at hx;simpa using hx
      have hag:=ag h2 (show y∈(Op.call cl).operands.toList by simpa using mem y (by rw [hy];simp)) r hy2
      simp only [aH,ho,hc,ha s h1]
      rw [hx]
      split
      ·rename_i h
       cases h
       exact absurd rfl (hns _ _)
      ·rename_i r' _ h
       cases h
       simp only [hu,ajk hag,hn,Option.bind_some]
       rfl
      ·rename_i h1 h2
       exact absurd rfl (h2 r)
     ·cases e
    ·cases e
   | _=>simp [BZ,hc] at hk
  | _=>simp [BZ,hc] at hk
 | _=>rw [ho] at hk;cases hk
end
end Go.Sim
