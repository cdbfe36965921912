/- Operations that only read may be taken first. Conditions: none. -/
import Derived.Test.YtnjgcdpleghciaaSimO
namespace Go.Sim
set_option linter.unusedSimpArgs false
set_option linter.unusedVariables false
def St.ws (st:St) (g:Nat→SV):St:={st with sl:=g}
section
variable {st:St} {g:Nat→SV}
theorem amJ (o s c:Nat):(st.ws g).cell o s c=st.cell o s c:=rfl
theorem asZ (o s:Nat):(st.ws g).obj o s=st.obj o s:=rfl
theorem arY (o:Nat) (ob:Obj):(st.ws g).setObj o ob=(st.setObj o ob).ws g:=rfl
theorem axN (sz:Nat) (r:RV):(st.ws g).view sz r=st.view sz r:=by cases r<;>rfl
theorem azs (sz:Nat) (r:RV):(st.ws g).avA sz r=st.avA sz r:=by cases r<;>rfl
theorem ayz (r:RV):(st.ws g).freeze r=(st.freeze r).ws g:=by
 cases r with
 | own o s c=>simp only [St.freeze,amJ];split<;>rfl
 | sub o s c lo hi=>simp only [St.freeze,amJ];split<;>rfl
 | mpe o s c i off=>simp only [St.freeze,amJ];split<;>rfl
 | mp o s off=>simp only [St.freeze,asZ];split<;>rfl
 | _=>rfl
theorem axa (sz:Nat) (r:RV):(st.ws g).fix sz r=(st.fix sz r).map fun p=>(p.1,p.2.1,p.2.2.ws g):=by
 simp only [St.fix,axN,ayz,Option.map_map]
 rfl
theorem ajn {α β γ:Type} (o:Option α) (f:α→β) (k:β→Option γ):(o.map f).bind k=o.bind fun x=>k (f x):=by cases o<;>rfl
theorem aiG {α β γ:Type} (o:Option α) (f:β→γ) (k:α→Option β):(o.bind k).map f=o.bind fun x=>(k x).map f:=by cases o<;>rfl
theorem apb:∀(ks:List (Option Nat)) (rs:List RV) {st:St},(st.ws g).ajQ ks rs=(st.ajQ ks rs).map fun p=>(p.1,p.2.1,p.2.2.ws g)
 | ks,[],st=>rfl
 | ks,r::rs,st=>by
  simp only [St.ajQ,axa,ajn,aiG]
  congr 1
  funext p
  rw [apb ks.tail rs]
  simp only [Option.map_map]
  rfl
theorem amm (sz:Nat) (r:RV):(st.ws g).take sz r=(st.take sz r).map fun p=>(p.1,p.2.ws g):=by
 cases r with
 | im t a=>rfl
 | nil=>rfl
 | alD=>rfl
 | fr a=>rfl
 | ws a=>rfl
 | own o s c=>
  simp only [St.take,amJ]
  cases st.cell o s c with
  | none=>rfl
  | some p=>obtain ⟨ob,⟨m,s',t,a⟩⟩:=p;cases m<;>rfl
 | sub o s c lo hi=>
  simp only [St.take,amJ]
  cases st.cell o s c with
  | none=>rfl
  | some p=>obtain ⟨ob,⟨m,s',t,a⟩⟩:=p;cases m<;>cases a<;>rfl
 | mp o s off=>simp only [St.take,axa,Option.map_map];rfl
 | mpe o s c i off=>simp only [St.take,axa,Option.map_map];rfl
 | inr o s c i j n=>
  simp only [St.take,amJ]
  cases st.cell o s c with
  | none=>rfl
  | some p=>
   obtain ⟨ob,⟨m,s',t,a⟩⟩:=p
   cases m with
   | dp n'=>
    cases a with
    | row z es=>
     simp only [Option.bind_some]
     split
     ·simp only [aiG]
      congr 1
      funext e
      split<;>rfl
     ·rfl
    | _=>rfl
   | _=>rfl
theorem anD:∀(ks:List (Option Nat)) (rs:List RV) {st:St},(st.ws g).ai4 ks rs=(st.ai4 ks rs).map fun p=>(p.1,p.2.ws g)
 | ks,[],st=>rfl
 | ks,r::rs,st=>by
  simp only [St.ai4,amm,ajn,aiG]
  congr 1
  funext p
  rw [anD ks.tail rs]
  simp only [Option.map_map]
  rfl
theorem aug (d:Nat) (mem ag:Bool) (cs:List CV):(st.ws g).newObj d mem ag cs=((st.newObj d mem ag cs).1.ws g,(st.newObj d mem ag cs).2):=rfl
theorem aAM (ag:Bool) (n:Nat) (x:RV):(st.ws g).load ag n x=st.load ag n x:=by cases x<;>rfl
theorem au0 (x:RV):(st.ws g).amB x=st.amB x:=by cases x<;>rfl
theorem axb (x:RV):(st.ws g).len x=st.len x:=by cases x<;>rfl
theorem avU (n:Nat) (x:RV):(st.ws g).shift n x=st.shift n x:=by simp only [St.shift,au0]
theorem avV (sz i:Nat) (x:RV):(st.ws g).aj1 sz x i=st.aj1 sz x i:=by cases x<;>rfl
theorem axc (sz:Nat) (x:RV) (lo hi:Option Int):(st.ws g).reslice sz x lo hi=st.reslice sz x lo hi:=by
 unfold St.reslice
 simp only [axb]
 cases x<;>rfl
theorem aAN (x:RV):(st.ws g).auO x=st.auO x:=by cases x<;>rfl
theorem aAO (o s c:Nat):(st.ws g).aqR o s c=st.aqR o s c:=rfl
theorem avW (sz:Nat) (x:RV):(st.ws g).elems sz x=st.elems sz x:=by simp only [St.elems,axN,aAN]
theorem azt (ty:Option TypeDesc) (op:BinOp) (x y:SV):binop (st.ws g) ty op x y=binop st ty op x y:=by
 have e:(st.ws g).amB =st.amB :=funext fun r=>au0 r
 unfold binop
 rw [e]
theorem ayA {P:Program} (t:TypeId) (op:BinOp) (x y:SV):aot P (st.ws g) t op x y=aot P st t op x y:=by
 unfold aot
 split
 ·rfl
 ·rw [azt]
theorem azu (r:RV):(st.ws g).alive r=st.alive r:=by cases r<;>simp only [St.alive,au0,axb,amJ]<;>rfl
theorem aqM (pl:List (Nat×Nat)):∀(xs:List (Nat×SV)) (cs:List RV),alH (st.ws g) pl cs xs=alH st pl cs xs
 | [],cs=>rfl
 | (i,.v ag rs)::r,cs=>by
  have e:(st.ws g).alive=st.alive:=funext fun r=>azu r
  simp only [alH,e]
  congr 1
  funext p
  split
  ·exact aqM pl r _
  ·rfl
 | (i,.fn _ _)::r,cs=>rfl
 | (i,.tup _)::r,cs=>rfl
theorem avX (ag:Bool) (ks:List (Option Nat)) (sz:Nat):∀(xs:List (Nat×SV)) (k:Nat) {st:St},(st.ws g).parts ag ks sz k xs=(st.parts ag ks sz k xs).map fun p=>(p.1,p.2.1,p.2.2.ws g)
 | [],k,st=>rfl
 | (i,.v ag' cs)::r,k,st=>by
  simp only [St.parts]
  split
  ·simp only [apb,ajn,aiG]
   congr 1
   funext p
   congr 1
   funext e
   rw [avX ag ks sz r (k+1)]
   simp only [Option.map_map]
   rfl
  ·rfl
 | (i,.fn _ _)::r,k,st=>rfl
 | (i,.tup _)::r,k,st=>rfl
theorem azv (ks:List (Option Nat)) (x:RV) (cs:List RV):(st.ws g).store ks x cs=(st.store ks x cs).map (·.ws g):=by
 cases x with
 | mp o s off=>
  simp only [St.store,anD,ajn,aiG]
  congr 1
  funext p
  simp only [asZ]
  cases p.2.obj o s with
  | none=>rfl
  | some ob=>simp only [Option.bind_some];split<;>rfl
 | mpe o s c i off=>
  simp only [St.store,aAO]
  by_cases hd:st.aqR o s c=true
  ·simp only [if_pos hd,anD,ajn,aiG]
   congr 1
   funext p
   simp only [amJ]
   cases p.2.cell o s c with
   | none=>rfl
   | some q=>
    obtain ⟨ob,⟨m,s',t',a⟩⟩:=q
    cases m with
    | dd n i' j=>
     cases a with
     | row sz es=>
      simp only [Option.bind_some]
      split
      ·split
       ·simp only [aiG,Option.map_map];rfl
       ·rfl
      ·rfl
     | _=>rfl
    | _=>rfl
  ·simp only [if_neg hd,apb,ajn,aiG]
   congr 1
   funext p
   simp only [amJ]
   cases p.2.2.cell o s c with
   | none=>rfl
   | some q=>
    obtain ⟨ob,⟨m,s',t',a⟩⟩:=q
    cases m<;>cases a<;>first | rfl | (simp only [Option.bind_some,aiG,Option.map_map];rfl)
 | ws a=>
  cases a with
  | cp as off=>
   simp only [St.store]
   split<;>rfl
  | _=>rfl
 | _=>rfl
theorem as1:∀(ks:List (Option Nat)) (rs:List RV),alV (st.ws g) ks rs=alV st ks rs
 | ks,[]=>rfl
 | ks,r::rs=>by simp only [alV,azs,as1 ks.tail rs]
section
variable {P:Program} {cfg:Cfg} {c:FuncId→List Arg→Option (Res×List Out)}
theorem aAP (m:PM) (ks:List (Option Nat)) (x:SV):(st.ws g).aqU m ks x=(st.aqU m ks x).map fun p=>(p.1,p.2.ws g):=by
 unfold St.aqU
 split
 ·simp only [apb,ajn,aiG]
  congr 1
  funext p
  split<;>rfl
 ·simp only [amm,ajn,aiG]
  congr 1
  funext p
  split
  ·rfl
  ·split<;>rfl
 ·simp only [anD,ajn,aiG]
  congr 1
  funext p
  split<;>rfl
 ·simp only [asZ]
  rename_i o s
  cases st.obj o s with
  | none=>rfl
  | some ob=>simp only [Option.bind_some];split<;>rfl
 ·rfl
theorem as3 (f:FuncId):∀(xs:List (TypeId×SV)) (j:Nat) {st:St},(st.ws g).ami P cfg f j xs=(st.ami P cfg f j xs).map fun p=>(p.1,p.2.ws g)
 | [],j,st=>rfl
 | (t,x)::xs,j,st=>by
  simp only [St.ami,aAP,ajn,aiG]
  congr 1
  funext p
  rw [as3 f xs (j+1)]
  simp only [Option.map_map]
  rfl
theorem aCA (m:PM) (ks:List (Option Nat)) (x:SV) (a:Option Arg):(st.ws g).see m ks x a=st.see m ks x a:=by
 cases a with
 | some a=>rfl
 | none=>unfold St.see;simp only [as1,asZ,amJ]
theorem auh (f:FuncId):∀(xs:List (TypeId×SV)) (as:List (Option Arg)) (j:Nat),(st.ws g).al4 P cfg f j xs as=st.al4 P cfg f j xs as
 | [],[],j=>rfl
 | [],_::_,j=>rfl
 | (t,x)::xs,[],j=>rfl
 | (t,x)::xs,a::as,j=>by simp only [St.al4,aCA,auh f xs as (j+1)]
theorem aq0 (t:Nat):∀(ls:List (Nat×Nat×Nat)) (os:List Out) {st:St},aj7 (st.ws g) t ls os=(aj7 st t ls os).map (·.ws g)
 | [],[],st=>rfl
 | [],_::_,st=>rfl
 | (o,s,c)::ls,[],st=>rfl
 | (o,s,c)::ls,.ptr ag cs::os,st=>by
  simp only [aj7,asZ,aiG,arY]
  congr 1
  funext ob
  exact aq0 t ls os
 | (o,s,c)::ls,.ow sz es::os,st=>by
  simp only [aj7,amJ,aiG,arY]
  congr 1
  funext ob
  split
  ·exact aq0 t ls os
  ·rfl
def aki (dst:Option Tmp) (g:Nat→SV) (s:St):St:=s.ws (match dst with | some d=>upd g d (s.sl d) | none=>g)
theorem anf {d:Nat} {v:SV}:aki (some d) g (st.aiR d v)=(st.ws g).aiR d v:=by
 simp only [aki,St.aiR,St.ws,upd_same]
theorem azw {dst:Option Tmp} {nt:Nat} {v:SV}:(match dst with | none=>some (st.ws g) | some d=>if Nat.blt d nt then some ((st.ws g).aiR d v) else none)=
 ((match dst with | none=>some st | some d=>if Nat.blt d nt then some (st.aiR d v) else none):Option St).map (aki dst g):=by
 cases dst with
 | none=>rfl
 | some d=>
  simp only
  split
  ·simp only [Option.map_some,anf]
  ·rfl
theorem amn {d:Nat} {mem ag:Bool} {cs:List CV} {f:Nat×Nat→SV}:((st.ws g).newObj d mem ag cs).1.aiR d (f ((st.ws g).newObj d mem ag cs).2)=aki (some d) g ((st.newObj d mem ag cs).1.aiR d (f (st.newObj d mem ag cs).2)):=by
 rw [aug,anf]
theorem ayB {d sz:Nat} {x:SV}:(st.ws g).assign d sz x=(st.assign d sz x).map (aki (some d) g):=by
 have go:∀r:RV,(((st.ws g).take sz r).map fun (x,st)=>
  match x.m with
  | .sh=>(st.newObj d false false [x]).1.aiR d (.v false [.own d (st.newObj d false false [x]).2.2 0])
  | .dp _=>(st.newObj d false false [x]).1.aiR d (.v false [.own d (st.newObj d false false [x]).2.2 0])
  | .ws=>st.aiR d (.v false [.ws x.a])
  | .fr=>st.aiR d (.v false [.fr x.a])
  | _=>st.aiR d (.im x.t x.a))=((st.take sz r).map fun (x,st)=>
  match x.m with
  | .sh=>(st.newObj d false false [x]).1.aiR d (.v false [.own d (st.newObj d false false [x]).2.2 0])
  | .dp _=>(st.newObj d false false [x]).1.aiR d (.v false [.own d (st.newObj d false false [x]).2.2 0])
  | .ws=>st.aiR d (.v false [.ws x.a])
  | .fr=>st.aiR d (.v false [.fr x.a])
  | _=>st.aiR d (.im x.t x.a)).map (aki (some d) g):=by
  intro r
  rw [amm]
  cases st.take sz r with
  | none=>rfl
  | some p=>
   obtain ⟨⟨m,t,a⟩,s⟩:=p
   simp only [Option.map_some,Option.some.injEq]
   cases m<;>first | exact amn (f:=fun p=> .v false [.own d p.2 0]) | exact anf.symm
 unfold St.assign
 split
 ·split
  ·simp only [Option.map_some,anf]
  ·exact go _
 ·exact go _
 ·exact go _
 ·simp only [Option.map_some,anf]
theorem axd (d:Nat) (cs:List CV):(st.ws g).aoO d cs=(st.aoO d cs).ws g:=by cases cs<;>rfl
theorem aui {dst:Option Tmp} {mt:Nat→Option Nat} {res:Res}:(st.ws g).unpack dst mt res=(st.unpack dst mt res).map (aki dst g):=by
 cases dst with
 | none=>rfl
 | some d=>
  unfold St.unpack
  simp only
  split
  ·simp only [Option.map_map]
   congr 1
   funext cs
   exact amn (f:=fun p=> .v false [.mp d p.1 0])
  ·simp only [Option.map_map]
   have e:(st.ws g).alW d=st.alW d:=rfl
   rw [e]
   congr 1
   funext q
   simp only [Function.comp,axd,anf]
theorem arw {P:Program} {cfg:Cfg} {c:FuncId→List Arg→Option (Res×List Out)} {dst:Option Tmp} {f:FuncId} {xs:List (TypeId×SV)}:(st.ws g).al5 P cfg c dst f xs=(st.al5 P cfg c dst f xs).map (aki dst g):=by
 unfold St.al5
 simp only [as3,ajn,aiG]
 congr 1
 funext pre
 simp only [auh]
 congr 1
 funext p
 split
 ·rfl
 ·simp only [aiG]
  congr 1
  funext r
  split
  ·simp only [ajn,aiG]
   congr 1
   funext s
   exact aui
  split
  ·simp only [aiG]
   congr 1
   funext q
   cases dst with
   | none=>rfl
   | some d=>simp only [Option.map_some,anf]
  ·simp only [aq0,ajn,aiG]
   congr 1
   funext s
   exact aui
theorem aq1 {P:Program} {cfg:Cfg} {c:FuncId→List Arg→Option (Res×List Out)} {d:Nat} {f:FuncId} {o s cc i j n:Nat}:(st.ws g).amj P cfg c d f o s cc i j n=(st.amj P cfg c d f o s cc i j n).map (aki (some d) g):=by
 unfold St.amj
 simp only [amm,ajn,aiG]
 congr 1
 funext q
 obtain ⟨⟨m,t,a⟩,s1⟩:=q
 cases m<;>cases a<;>first | rfl | skip
 simp only [aug,arw,ajn,aiG]
 congr 1
 funext st2
 have e:aki none g st2=st2.ws g:=rfl
 simp only [e,amm,ajn,aiG]
 congr 1
 funext y
 obtain ⟨⟨m,t,a⟩,s2⟩:=y
 cases m<;>cases a<;>first | rfl | skip
 simp only [amJ,aiG]
 congr 1
 funext x
 obtain ⟨ob,m,s',t',a⟩:=x
 cases m<;>cases a<;>first | rfl | skip
 simp only
 split
 ·simp only [aiG]
  congr 1
  funext e
  simp only [Option.map_map]
  congr 1
  funext e'
  simp only [Function.comp,anf,arY]
 ·rfl
theorem axO {P:Program} {cfg:Cfg} {c:FuncId→List Arg→Option (Res×List Out)} {dst:Option Tmp} {f:FuncId} {xs:List (TypeId×SV)}:(st.ws g).call P cfg c dst f xs=(st.call P cfg c dst f xs).map (aki dst g):=by
 unfold St.call
 rw [arw,Option.map_or]
 congr 1
 split
 ·exact aq1
 ·rfl
theorem axe {d:Nat} {ks:List (Option Nat)} {sz b:Nat} {x y:RV}:(st.ws g).aof d ks sz b x y=(st.aof d ks sz b x y).map (aki (some d) g):=by
 unfold St.aof
 simp only [avW,aiG]
 congr 1
 funext p
 obtain ⟨ty,ys⟩:=p
 simp only
 have fin:∀(t:Nat) (es:List AV) (st:St),(if room (es.length+ys.length) b then some (((st.ws g).newObj d false false [⟨.sh,Nat.max t (ai5 ks ty ys),.row sz (es++ys)⟩]).1.aiR d (.v false [.own d ((st.ws g).newObj d false false [⟨.sh,Nat.max t (ai5 ks ty ys),.row sz (es++ys)⟩]).2.2 0])) else none:Option St)=
  (if room (es.length+ys.length) b then some ((st.newObj d false false [⟨.sh,Nat.max t (ai5 ks ty ys),.row sz (es++ys)⟩]).1.aiR d (.v false [.own d (st.newObj d false false [⟨.sh,Nat.max t (ai5 ks ty ys),.row sz (es++ys)⟩]).2.2 0])) else none:Option St).map (aki (some d) g):=by
  intro t es st
  split
  ·simp only [Option.map_some,Option.some.injEq]
   exact amn (f:=fun p=> .v false [.own d p.2 0])
  ·rfl
 cases x with
 | nil=>exact fin 0 [] st
 | own o s c'=>
  simp only [amm,ajn,aiG]
  congr 1
  funext q
  obtain ⟨⟨m,t,a⟩,s'⟩:=q
  cases m<;>cases a<;>first | rfl | (simp only;split<;>first | exact fin _ _ _ | rfl)
 | sub o s c' lo hi=>
  cases lo with
  | zero=>
   simp only [amm,ajn,aiG]
   congr 1
   funext q
   obtain ⟨⟨m,t,a⟩,s'⟩:=q
   cases m<;>cases a<;>first | rfl | (simp only;split<;>first | exact fin _ _ _ | rfl)
  | succ n=>rfl
 | inr o s c' i j n=>
  simp only [amm,ajn,aiG]
  congr 1
  funext q
  obtain ⟨⟨m,t,a⟩,s'⟩:=q
  cases m<;>cases a<;>first | rfl | (simp only;split<;>first | exact fin _ _ _ | rfl)
 | _=>rfl
theorem axf {d sz b:Nat} {x y:RV}:(st.ws g).aqx d sz b x y=(st.aqx d sz b x y).map (aki (some d) g):=by
 unfold St.aqx
 simp only [amm,ajn,aiG]
 congr 1
 funext p
 obtain ⟨⟨m,t,a⟩,s'⟩:=p
 cases m<;>cases a<;>first | rfl | skip
 simp only [amm,ajn,aiG]
 congr 1
 funext q
 obtain ⟨⟨m2,t2,a2⟩,s2⟩:=q
 cases m2<;>cases a2<;>first | rfl | skip
 simp only
 split
 ·simp only [Option.map_some,Option.some.injEq]
  exact amn (f:=fun p=> .v false [.own d p.2 0])
 ·rfl
theorem auj {d:Nat} {ks:List (Option Nat)} {sz b:Nat} {x y:RV}:(st.ws g).append d ks sz b x y=(st.append d ks sz b x y).map (aki (some d) g):=by
 unfold St.append
 rw [axe,axf,Option.map_or]
theorem axg {d sz:Nat} {ks:List (Option Nat)} {ps:List (Nat×SV)}:(st.ws g).aqy d ks sz ps=(st.aqy d ks sz ps).map (aki (some d) g):=by
 unfold St.aqy
 split
 ·split
  ·simp only [amm,ajn,aiG]
   congr 1
   funext p
   obtain ⟨⟨m,t,a⟩,s'⟩:=p
   cases m<;>cases a<;>first | rfl | skip
   simp only [Option.map_some,Option.some.injEq]
   exact amn (f:=fun p=> .v false [.own d p.2 0])
  ·rfl
 ·rfl
theorem aCB {x:Operand} (h:∀t,x= .tmp t→g t=st.sl t):(st.ws g).get x=st.get x:=by
 cases x with
 | tmp t=>exact h t rfl
 | _=>rfl
variable {P:Program} {cfg:Cfg} {c:FuncId→List Arg→Option (Res×List Out)} {nt:Nat}
theorem aAQ {o:Oper} (h:∀x∈o.op.operands,(st.ws g).get x=st.get x):aiD P cfg c nt o (st.ws g)=(aiD P cfg c nt o st).map (aki o.dst g):=by
 have one:∀{v:SV},(match o.dst with | none=>some (st.ws g) | some d=>if Nat.blt d nt then some ((st.ws g).aiR d v) else none)=
  ((match o.dst with | none=>some st | some d=>if Nat.blt d nt then some (st.aiR d v) else none):Option St).map (aki o.dst g):=azw
 have at_:∀{k k':Nat→Option St},(∀d,o.dst=some d→k d=(k' d).map (aki (some d) g))→(o.dst.bind fun d=>if Nat.blt d nt then k d else none)=(o.dst.bind fun d=>if Nat.blt d nt then k' d else none).map (aki o.dst g):=by
  intro k k' hk
  cases hd:o.dst with
  | none=>rfl
  | some d=>
   simp only [Option.bind_some]
   split
   ·exact hk d hd
   ·rfl
 have pairs:∀ps:Array (Nat×Operand),(∀p∈ps.toList,(st.ws g).get p.2=st.get p.2)→(ps.toList.map fun p=>(p.1,(st.ws g).get p.2))=ps.toList.map fun p=>(p.1,st.get p.2):=by
  intro ps hp
  refine List.map_congr_left fun p hm=>?_
  rw [hp p hm]
 cases ho:o.op with
 | move x=>
  rw [ho] at h
  simp only [aiD,ho,h x (by simp [Op.operands])]
  exact one
 | assign x=>
  rw [ho] at h
  simp only [aiD,ho,h x (by simp [Op.operands])]
  exact at_ fun d hd=>ayB
 | pick a x y=>
  rw [ho] at h
  simp only [aiD,ho,h a (by simp [Op.operands]),h x (by simp [Op.operands]),h y (by simp [Op.operands]),aiG]
  congr 1
  funext t
  exact one
 | alloc t=>
  simp only [aiD,ho]
  refine at_ fun d hd=>?_
  simp only [aiG]
  congr 1
  funext cs
  congr 1
  funext ks
  simp only [anD,Option.map_map]
  congr 1
  funext p
  exact amn (f:=fun p=> .v false [.mp d p.1 0])
 | box t x=>
  rw [ho] at h
  simp only [aiD,ho,h x (by simp [Op.operands])]
  refine at_ fun d hd=>?_
  cases st.get x with
  | v ag cs=>
   simp only [aiG]
   congr 1
   funext ks
   simp only [anD,Option.map_map]
   congr 1
   funext p
   exact amn (f:=fun p=> .v false [.mp d p.1 0])
  | _=>rfl
 | build t ps=>
  rw [ho] at h
  have hp:=pairs ps fun p hm=>h p.2 (by have hm':p∈ps:=(by simpa using hm);simp [Op.operands];exact ⟨p.1,hm'⟩)
  simp only [aiD,ho,hp,aqM,aiG]
  congr 1
  funext zs
  split
  ·simp only [aiG]
   congr 1
   funext pl
   congr 1
   funext cs
   exact one
  ·simp only [aiG]
   congr 1
   funext inf
   congr 1
   funext cs
   exact one
  ·rfl
 | buildSlice t n ps=>
  rw [ho] at h
  have hp:=pairs ps fun p hm=>h p.2 (by have hm':p∈ps:=(by simpa using hm);simp [Op.operands];exact ⟨p.1,hm'⟩)
  simp only [aiD,ho,hp]
  refine at_ fun d hd=>?_
  simp only [aiG]
  congr 1
  funext e
  congr 1
  funext ks
  congr 1
  funext _
  split
  ·cases ps.size.beq 1&&cfg.deep nt d with
   | true=>exact axg
   | false=>
    simp only [cond_false,avX,Option.map_map]
    congr 1
    funext p
    exact amn (f:=fun p=> .v false [.own d p.2 0])
  ·rfl
 | load t x=>
  rw [ho] at h
  simp only [aiD,ho,h x (by simp [Op.operands]),aiG,aAM]
  congr 1
  funext ks
  congr 1
  funext r
  congr 1
  funext v
  exact one
 | store t p x=>
  rw [ho] at h
  simp only [aiD,ho,h p (by simp [Op.operands]),h x (by simp [Op.operands])]
  cases hd:o.dst with
  | some d=>rfl
  | none=>
   simp only [Option.isSome_none,Bool.false_eq_true,if_false,aiG]
   congr 1
   funext r
   cases st.get x with
   | v ag cs=>
    simp only
    split
    ·simp only [aiG,azv]
     rfl
    ·rfl
   | _=>rfl
 | nilCheck x=>
  rw [ho] at h
  have e:(st.ws g).amB =st.amB :=funext fun r=>au0 r
  simp only [aiD,ho,h x (by simp [Op.operands]),e]
  split
  ·split
   ·exact one
   ·rfl
  ·exact one
  ·rfl
 | binOp op t x y t2=>
  rw [ho] at h
  simp only [aiD,ho,h x (by simp [Op.operands]),h y (by simp [Op.operands]),ayA,aiG]
  congr 1
  funext v
  exact one
 | unOp op t x=>
  rw [ho] at h
  simp only [aiD,ho,h x (by simp [Op.operands]),aiG]
  congr 1
  funext v
  exact one
 | convert s t x=>
  rw [ho] at h
  simp only [aiD,ho,h x (by simp [Op.operands]),avW]
  split
  ·exact one
  ·exact one
  ·split
   ·simp only [aiG]
    congr 1
    funext p
    congr 1
    funext l
    exact one
   ·rfl
  ·rfl
 | fieldAddr s x f=>
  rw [ho] at h
  have e:∀n,(st.ws g).shift n=st.shift n:=fun n=>funext fun r=>avU n r
  simp only [aiD,ho,h x (by simp [Op.operands]),e]
  split
  ·simp only [aiG]
   congr 1
   funext fd
   split
   ·rfl
   ·simp only [aiG]
    congr 1
    funext r
    exact one
  ·rfl
 | indexAddr t x i=>
  rw [ho] at h
  simp only [aiD,ho,h x (by simp [Op.operands]),h i (by simp [Op.operands]),aiG]
  congr 1
  funext p
  congr 1
  funext i
  congr 1
  funext r
  split
  ·simp only [avV,aiG]
   congr 1
   funext inf
   congr 1
   funext r
   exact one
  ·split
   ·simp only [avU,aiG]
    congr 1
    funext inf
    congr 1
    funext r
    exact one
   ·rfl
  ·rfl
 | index t x i=>
  rw [ho] at h
  simp only [aiD,ho,h x (by simp [Op.operands]),h i (by simp [Op.operands]),aiG]
  congr 1
  funext p
  congr 1
  funext i
  split
  ·simp only [aiG]
   congr 1
   funext r
   exact one
  ·simp only [aiG]
   congr 1
   funext r
   exact one
 | field t x f=>
  rw [ho] at h
  simp only [aiD,ho,h x (by simp [Op.operands])]
  split
  ·simp only [aiG]
   congr 1
   funext fd
   congr 1
   funext u
   congr 1
   funext v
   exact one
  ·rfl
 | extract x i=>
  rw [ho] at h
  simp only [aiD,ho,h x (by simp [Op.operands])]
  split
  ·simp only [aiG]
   congr 1
   funext p
   exact one
  ·rfl
 | slice t x lo hi mx=>
  cases mx with
  | some _=>simp [aiD,ho]
  | none=>
   rw [ho] at h
   have hl:∀y,lo=some y→(st.ws g).get y=st.get y:=fun y e=>h y (by subst e;simp [Op.operands])
   have hh:∀y,hi=some y→(st.ws g).get y=st.get y:=fun y e=>h y (by subst e;simp [Op.operands])
   have e:∀(sz:Nat) (r:RV) (a b:Option Int),(st.ws g).reslice sz r a b=st.reslice sz r a b:=fun sz r a b=>axc sz r a b
   have body:∀(a b:Option (Option Int)),(a.bind fun lo=>b.bind fun hi=>match P.underlying t,(st.ws g).get x with
    | some .string,.v false [.im _ (.sc (.string s))]=>
     (match lo with | none=>some 0 | some l=>al3 l).bind fun l=>(match hi with | none=>some s.size | some h=>al3 h).bind fun h=>
       if Nat.ble l h&&Nat.ble h s.size then (match o.dst with | none=>some (st.ws g) | some d=>if Nat.blt d nt then some ((st.ws g).aiR d (.im 0 (.sc (.string (s.extract l h))))) else none) else none
    | some (.slice e),.v false [r]=>(P.info? e).bind fun inf=>((st.ws g).reslice inf.size r lo hi).bind fun r=>(match o.dst with | none=>some (st.ws g) | some d=>if Nat.blt d nt then some ((st.ws g).aiR d (.v false [r])) else none)
    | _,_=>none)=(a.bind fun lo=>b.bind fun hi=>match P.underlying t,st.get x with
    | some .string,.v false [.im _ (.sc (.string s))]=>
     (match lo with | none=>some 0 | some l=>al3 l).bind fun l=>(match hi with | none=>some s.size | some h=>al3 h).bind fun h=>
       if Nat.ble l h&&Nat.ble h s.size then (match o.dst with | none=>some st | some d=>if Nat.blt d nt then some (st.aiR d (.im 0 (.sc (.string (s.extract l h))))) else none) else none
    | some (.slice e),.v false [r]=>(P.info? e).bind fun inf=>(st.reslice inf.size r lo hi).bind fun r=>(match o.dst with | none=>some st | some d=>if Nat.blt d nt then some (st.aiR d (.v false [r])) else none)
    | _,_=>none:Option St).map (aki o.dst g):=by
    intro a b
    simp only [h x (by simp [Op.operands]),e,aiG]
    congr 1
    funext lo
    congr 1
    funext hi
    split
    ·simp only [aiG]
     congr 1
     funext l
     congr 1
     funext h
     split
     ·exact one
     ·rfl
    ·simp only [aiG]
     congr 1
     funext inf
     congr 1
     funext r
     exact one
    ·rfl
   cases lo with
   | none=>
    cases hi with
    | none=>simp only [aiD,ho];exact body (some none) (some none)
    | some y=>simp only [aiD,ho,hh y rfl];exact body (some none) _
   | some z=>
    cases hi with
    | none=>simp only [aiD,ho,hl z rfl];exact body _ (some none)
    | some y=>simp only [aiD,ho,hl z rfl,hh y rfl];exact body _ _
 | makeSlice t n m=>
  rw [ho] at h
  simp only [aiD,ho,h n (by simp [Op.operands]),h m (by simp [Op.operands])]
  refine at_ fun d hd=>?_
  simp only [aiG]
  congr 1
  funext e
  congr 1
  funext zs
  split
  ·rfl
  ·simp only [aiG]
   congr 1
   funext ks
   congr 1
   funext a
   congr 1
   funext b
   congr 1
   funext n'
   split
   ·simp only [apb,ajn,aiG,Option.map_map]
    congr 1
    funext p
    congr 1
    funext z
    exact amn (f:=fun p=> .v false [.own d p.2 0])
   ·rfl
 | makeFunc fn first caps=>
  cases fn with
  | func f=>
   rw [ho] at h
   have hc:(caps.toList.mapM fun c=>((st.ws g).get c).one?)=caps.toList.mapM fun c=>(st.get c).one? :=by
    have:∀l:List Operand,(∀x∈l,(st.ws g).get x=st.get x)→(l.mapM fun c=>((st.ws g).get c).one?)=l.mapM fun c=>(st.get c).one? :=by
     intro l
     induction l with
     | nil=>intro _;rfl
     | cons x l ih=>intro hx;simp only [List.mapM_cons,hx x (by simp),ih fun y hy=>hx y (by simp [hy])]
    exact this _ fun x hx=>h x (by simp [Op.operands];right;simpa using hx)
   simp only [aiD,ho,hc]
   split
   ·simp only [aiG]
    congr 1
    funext rs
    exact one
   ·rfl
  | _=>simp [aiD,ho]
 | call cl=>
  rw [ho] at h
  have ha:cl.args.toList.map (st.ws g).get=cl.args.toList.map st.get:=List.map_congr_left fun x hx=>h x (by simp [Op.operands,Call.operands];right;simpa using hx)
  cases hc:cl.callee with
  | value f=>
   have hf:=h f (by simp [Op.operands,Call.operands,hc])
   simp only [aiD,ho,hc,hf,ha]
   split
   ·split
    ·exact axO
    ·rfl
   ·split
    ·exact axO
    ·rfl
   ·rfl
  | builtin b=>
   have e:(st.ws g).len=st.len:=funext fun r=>axb r
   cases b with
   | len=>
    simp only [aiD,ho,hc,ha,e]
    split
    ·split
     ·exact one
     ·rfl
    ·split
     ·simp only [aiG]
      congr 1
      funext n
      exact one
     ·rfl
    ·rfl
   | min=>
    simp only [aiD,ho,hc,ha,aiG]
    congr 1
    funext v
    exact one
   | max=>
    simp only [aiD,ho,hc,ha,aiG]
    congr 1
    funext v
    exact one
   | append=>
    simp only [aiD,ho,hc,ha]
    refine at_ fun d hd=>?_
    simp only [aiG]
    congr 1
    funext e
    congr 1
    funext zs
    split
    ·rfl
    ·split
     ·exact auj
     ·exact auj
     ·rfl
   | _=>simp [aiD,ho,hc]
  | _=>simp [aiD,ho,hc]
 | _=>simp [aiD,ho]
end
end
end Go.Sim
namespace Go.Sim
set_option linter.unusedSimpArgs false
set_option linter.unusedVariables false
section
variable {st s:St}
def Agree (st s:St) (r:RV):Prop:=∀b,r.aCp =some b→s.L b=st.L b
theorem aqD {o k c:Nat} (h:s.L o=st.L o):s.cell o k c=st.cell o k c:=by simp only [St.cell,h]
theorem azx {o k:Nat} (h:s.L o=st.L o):s.obj o k=st.obj o k:=by simp only [St.obj,h]
theorem aAR {ag:Bool} {n:Nat} {r:RV} (h:Agree st s r):s.load ag n r=st.load ag n r:=by
 cases r with
 | mp o k off=>simp only [St.load,azx (h o rfl)]
 | mpe o k c i off=>simp only [St.load,aqD (h o rfl)]
 | im t a=>cases a<;>rfl
 | ws y=>cases y<;>rfl
 | _=>rfl
theorem au1 {r:RV} (h:Agree st s r):s.amB r=st.amB r:=by
 cases r with
 | mp o k off=>simp only [St.amB,azx (h o rfl)]
 | mpe o k c i off=>simp only [St.amB,aqD (h o rfl)]
 | im t a=>
  cases a with
  | sc v=>
   cases v with
   | pointer p=>cases p<;>rfl
   | _=>rfl
  | _=>rfl
 | ws y=>cases y<;>rfl
 | _=>rfl
theorem aCC {r:RV} (h:Agree st s r):s.len r=st.len r:=by
 cases r with
 | own o k c=>simp only [St.len,aqD (h o rfl)]
 | sub o k c lo hi=>simp only [St.len,aqD (h o rfl)]
 | im t a=>cases a<;>rfl
 | ws y=>cases y<;>rfl
 | _=>rfl
theorem avY {n:Nat} {r:RV} (h:Agree st s r):s.shift n r=st.shift n r:=by simp only [St.shift,au1 h]
theorem avZ {sz i:Nat} {r:RV} (h:Agree st s r):s.aj1 sz r i=st.aj1 sz r i:=by
 cases r with
 | own o k c=>simp only [St.aj1,aqD (h o rfl)]
 | sub o k c lo hi=>simp only [St.aj1,aqD (h o rfl)]
 | im t a=>cases a<;>rfl
 | ws y=>cases y<;>rfl
 | _=>rfl
theorem azy {ty:Option TypeDesc} {op:BinOp} {x y:SV} (hx:∀r,x= .v false [r]→Agree st s r) (hy:∀r,y= .v false [r]→Agree st s r):binop s ty op x y=binop st ty op x y:=by
 unfold binop
 split
 ·rfl
 ·rfl
 ·rfl
 ·rw [au1 (hx _ rfl),au1 (hy _ rfl)]
 ·rfl
theorem ayC {P:Program} {t:TypeId} {op:BinOp} {x y:SV} (hx:∀r,x= .v false [r]→Agree st s r) (hy:∀r,y= .v false [r]→Agree st s r):aot P s t op x y=aot P st t op x y:=by
 unfold aot
 split
 ·rfl
 ·exact azy hx hy
theorem arx {x:SV} {r:RV} (h:x.one? =some r):x= .v false [r]:=by
 unfold SV.one? at h
 split at h
 ·cases h;rfl
 ·cases h
variable {P:Program} {cfg:Cfg} {c:FuncId→List Arg→Option (Res×List Out)} {nt:Nat}
def azz (nt:Nat) (dst:Option Tmp) (v:SV) (s:St):Option St:=match dst with | none=>some s | some d=>if Nat.blt d nt then some (s.aiR d v) else none
theorem av3 {o:Oper} (hk:aou o.op=true) {st':St} (e:aiD P cfg c nt o st=some st'):
 ∃v,azz nt o.dst v st=some st'∧∀s:St,(∀x∈o.op.operands,s.get x=st.get x)→(∀x∈watch o.op,∀b∈(st.get x).ajz,s.L b=st.L b)→aiD P cfg c nt o s=azz nt o.dst v s:=by
 have ag:∀{s:St} {x:Operand},(∀x∈watch o.op,∀b∈(st.get x).ajz,s.L b=st.L b)→x∈watch o.op→∀r,st.get x= .v false [r]→Agree st s r:=by
  intro s x h hx r e b hb
  exact h x hx b (by rw [e];simp [SV.ajz,hb])
 cases ho:o.op with
 | move x=>
  simp only [aiD,ho] at e
  refine ⟨st.get x,e,fun s h1 h2=>?_⟩
  simp only [aiD,ho,h1 x (by simp [watch,Op.operands])]
  rfl
 | pick a x y=>
  simp only [aiD,ho] at e
  obtain ⟨t,ht,e⟩:=Option.bind_eq_some_iff.1 e
  refine ⟨bif t then st.get x else st.get y,e,fun s h1 h2=>?_⟩
  simp only [aiD,ho,h1 a (by simp [watch,Op.operands]),h1 x (by simp [watch,Op.operands]),h1 y (by simp [watch,Op.operands]),ht,Option.bind_some]
  rfl
 | load t x=>
  rw [ho] at ag
  simp only [aiD,ho] at e
  obtain ⟨ks,hks,e⟩:=Option.bind_eq_some_iff.1 e
  obtain ⟨r,hr,e⟩:=Option.bind_eq_some_iff.1 e
  obtain ⟨v,hv,e⟩:=Option.bind_eq_some_iff.1 e
  refine ⟨v,e,fun s h1 h2=>?_⟩
  simp only [aiD,ho,h1 x (by simp [watch,Op.operands]),hks,hr,Option.bind_some,aAR (ag h2 (by simp [watch,Op.operands]) r (arx hr)),hv]
  rfl
 | nilCheck x=>
  rw [ho] at ag
  simp only [aiD,ho] at e
  split at e
  ·rename_i r hx
   split at e
   ·rename_i hp
    refine ⟨_,e,fun s h1 h2=>?_⟩
    simp only [aiD,ho,h1 x (by simp [watch,Op.operands]),hx,au1 (ag h2 (by simp [watch,Op.operands]) r hx),hp]
    rfl
   ·cases e
  ·rename_i f cs hx
   refine ⟨_,e,fun s h1 h2=>?_⟩
   simp only [aiD,ho,h1 x (by simp [watch,Op.operands]),hx]
   rfl
  ·cases e
 | binOp op t x y t2=>
  rw [ho] at ag
  simp only [aiD,ho] at e
  obtain ⟨v,hv,e⟩:=Option.bind_eq_some_iff.1 e
  refine ⟨_,e,fun s h1 h2=>?_⟩
  simp only [aiD,ho,h1 x (by simp [watch,Op.operands]),h1 y (by simp [watch,Op.operands]),ayC (ag (x:=x) h2 (by simp [watch,Op.operands])) (ag (x:=y) h2 (by simp [watch,Op.operands])),hv,Option.bind_some]
  rfl
 | unOp op t x=>
  simp only [aiD,ho] at e
  obtain ⟨v,hv,e⟩:=Option.bind_eq_some_iff.1 e
  refine ⟨_,e,fun s h1 h2=>?_⟩
  simp only [aiD,ho,h1 x (by simp [watch,Op.operands]),hv,Option.bind_some]
  rfl
 | fieldAddr t x f=>
  rw [ho] at ag
  simp only [aiD,ho] at e
  split at e
  ·rename_i fs hu
   obtain ⟨fd,hfd,e⟩:=Option.bind_eq_some_iff.1 e
   split at e
   ·cases e
   ·rename_i hnz
    obtain ⟨r',hr',e⟩:=Option.bind_eq_some_iff.1 e
    obtain ⟨r,hr,hsh⟩:=Option.bind_eq_some_iff.1 hr'
    refine ⟨_,e,fun s h1 h2=>?_⟩
    simp only [aiD,ho,hu,hfd,Option.bind_some,if_neg hnz,h1 x (by simp [watch,Op.operands]),hr,avY (ag h2 (by simp [watch,Op.operands]) r (arx hr)),hsh]
    rfl
  ·cases e
 | indexAddr t x i=>
  rw [ho] at ag
  simp only [aiD,ho] at e
  obtain ⟨p,hp,e⟩:=Option.bind_eq_some_iff.1 e
  obtain ⟨n,hn,e⟩:=Option.bind_eq_some_iff.1 e
  obtain ⟨r,hr,e⟩:=Option.bind_eq_some_iff.1 e
  split at e
  ·rename_i el hu
   obtain ⟨inf,hi,e⟩:=Option.bind_eq_some_iff.1 e
   obtain ⟨r',hr',e⟩:=Option.bind_eq_some_iff.1 e
   refine ⟨_,e,fun s h1 h2=>?_⟩
   simp only [aiD,ho,h1 i (by simp [watch,Op.operands]),h1 x (by simp [watch,Op.operands]),hp,hn,hr,Option.bind_some,hu,hi,avZ (ag h2 (by simp [watch,Op.operands]) r (arx hr)),hr']
   rfl
  ·rename_i m el hu
   split at e
   ·rename_i hlt
    obtain ⟨inf,hi,e⟩:=Option.bind_eq_some_iff.1 e
    obtain ⟨r',hr',e⟩:=Option.bind_eq_some_iff.1 e
    refine ⟨_,e,fun s h1 h2=>?_⟩
    simp only [aiD,ho,h1 i (by simp [watch,Op.operands]),h1 x (by simp [watch,Op.operands]),hp,hn,hr,Option.bind_some,hu,hlt,if_true,hi,avY (ag h2 (by simp [watch,Op.operands]) r (arx hr)),hr']
    rfl
   ·cases e
  ·cases e
 | extract x i=>
  simp only [aiD,ho] at e
  split at e
  ·rename_i vs hx
   obtain ⟨p,hp,e⟩:=Option.bind_eq_some_iff.1 e
   refine ⟨_,e,fun s h1 h2=>?_⟩
   simp only [aiD,ho,h1 x (by simp [watch,Op.operands]),hx,hp,Option.bind_some]
   rfl
  ·cases e
 | field t x f=>
  simp only [aiD,ho] at e
  split at e
  ·rename_i fs cs hu hx
   obtain ⟨fd,hfd,e⟩:=Option.bind_eq_some_iff.1 e
   obtain ⟨u,hu2,e⟩:=Option.bind_eq_some_iff.1 e
   obtain ⟨v,hv,e⟩:=Option.bind_eq_some_iff.1 e
   refine ⟨_,e,fun s h1 h2=>?_⟩
   simp only [aiD,ho,h1 x (by simp [watch,Op.operands]),hu,hx,hfd,Option.bind_some,hu2,hv]
   rfl
  ·cases e
 | index t x i=>
  simp only [aiD,ho] at e
  obtain ⟨p,hp,e⟩:=Option.bind_eq_some_iff.1 e
  obtain ⟨n,hn,e⟩:=Option.bind_eq_some_iff.1 e
  split at e
  ·rename_i hu hx
   obtain ⟨b,hb,e⟩:=Option.bind_eq_some_iff.1 e
   refine ⟨_,e,fun s h1 h2=>?_⟩
   simp only [aiD,ho,h1 i (by simp [watch,Op.operands]),h1 x (by simp [watch,Op.operands]),hp,hn,Option.bind_some,hu,hx,hb]
   rfl
  ·rename_i hno
   obtain ⟨b,hb,e⟩:=Option.bind_eq_some_iff.1 e
   refine ⟨_,e,fun s h1 h2=>?_⟩
   simp only [aiD,ho,h1 i (by simp [watch,Op.operands]),h1 x (by simp [watch,Op.operands]),hp,hn,Option.bind_some,hb]
   rfl
 | call cl=>
  rw [ho] at hk ag
  cases hc:cl.callee with
  | builtin b=>
   cases b with
   | len=>
    have mem:∀x∈cl.args.toList,x∈(Op.call cl).operands:=fun x hx=>by simp [Op.operands,Call.operands];right;simpa using hx
    have ha:∀s:St,(∀x∈(Op.call cl).operands,s.get x=st.get x)→cl.args.toList.map s.get=cl.args.toList.map st.get:=fun s h=>List.map_congr_left fun x hx=>h x (mem x hx)
    simp only [aiD,ho,hc] at e
    split at e
    ·rename_i hx
     split at e
     ·rename_i hu
      refine ⟨_,e,fun s h1 h2=>?_⟩
      simp only [aiD,ho,hc,ha s h1,hx,hu]
      rfl
     ·cases e
    ·rename_i r hns hx
     split at e
     ·rename_i el hu
      obtain ⟨n,hn,e⟩:=Option.bind_eq_some_iff.1 e
      refine ⟨_,e,fun s h1 h2=>?_⟩
      obtain ⟨y,hy⟩:∃y,cl.args.toList=[y]:=by
       have hl:=congrArg List.length hx
       rw [List.length_map] at hl
       match hcl:cl.args.toList,hl with
       | [y],_=>exact ⟨y,rfl⟩
      have hy2:st.get y= .v false [r]:=by rw [hy] at hx;simpa using hx
      have hag:=ag h2 (show y∈(Op.call cl).operands.toList by simpa using mem y (by rw [hy];simp)) r hy2
      simp only [aiD,ho,hc,ha s h1]
      rw [hx]
      split
      ·rename_i h
       cases h
       exact absurd rfl (hns _ _)
      ·rename_i r' _ h
       cases h
       simp only [hu,aCC hag,hn,Option.bind_some]
       rfl
      ·rename_i h1 h2
       exact absurd rfl (h2 r)
     ·cases e
    ·cases e
   | _=>simp [aou,hc] at hk
  | _=>simp [aou,hc] at hk
 | _=>rw [ho] at hk;cases hk
end
end Go.Sim
