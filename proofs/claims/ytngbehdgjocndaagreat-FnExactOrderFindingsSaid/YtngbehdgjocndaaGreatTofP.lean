/- The plain law of FnExactOrderFindings. Conditions: none. -/
import Derived.Test.YtngbehdgjocndaaGreatTofT
import Derived.Test.YtngbehdgjocndaaGreatSimPe
import Derived.Test.YtngbehdgjocndaaGreatSimPn
import Derived.Test.YtngbehdgjocndaaGreatSimRh
namespace Go.Pw
open Go.Sim (min2 max2)
set_option linter.unusedVariables false
set_option linter.unusedSimpArgs false
theorem maxLen_eq:maxLen=9223372036854775807:=rfl
theorem Zo {α:Type} {f:Int×Int→Option ((Int×Int) ⊕ (Int ⊕ Int))} (l:List α) (B:α→Prop) (hl:l.length<4611686018427387904)
 (h1:∀(i:Nat) (hi:i<l.length) (u:Int),0≤u→u≤1048576→∃v,v≤u∧(v<0∨B l[i])∧f (u,(i:Int))=if v<0 then some (.inr (.inr (-1))) else some (.inl (v,w64 ((i:Int)+1))))
 (h2:∀u,f (u,(l.length:Int))=some (.inr (.inl u))) {left:Int} (h3:0≤left) (h4:left≤1048576):
 Ev (aT f (left,0)) (fun r=>r= .inr (-1)∨∃v,r= .inl v∧0≤v∧v≤left∧∀x∈l,B x):=by
 refine Ev.loop (fun s=>∃i:Nat,s.2=(i:Int)∧i≤l.length∧0≤s.1∧s.1≤left∧∀x∈l.take i,B x) (fun s=>((l.length:Int) - s.2).toNat) ?_ ⟨0,rfl,Nat.zero_le _,h3,Int.le_refl _,fun x hx=>(by simp at hx)⟩
 rintro ⟨u,i⟩ ⟨j,rfl,j1,j2,j3,j4⟩
 simp only at j2 j3
 by_cases c:j<l.length
 ·obtain ⟨v,v1,v2,v3⟩:=h1 j c u j2 (by omega)
  rw [v3]
  refine Ev.ite (fun _=>Ev.ret (.inl rfl)) fun hv=>?_
  rw [dX (by omega)]
  refine Ev.ret ⟨⟨j+1,rfl,by omega,by simp only;omega,by simp only;omega,fun x hx=>?_⟩,by simp only;omega⟩
  rw [List.take_succ_eq_append_getElem c] at hx
  rcases List.mem_append.1 hx with hx | hx
  ·exact j4 x hx
  ·rw [List.mem_singleton] at hx
   subst hx
   exact v2.resolve_left hv
 ·obtain rfl:j=l.length:=by omega
  rw [h2]
  exact Ev.ret (.inr ⟨u,rfl,j2,j3,by rwa [List.take_length] at j4⟩)
def RX (x:ae):Prop:=(Lit.int .i64 x.X).wf=true∧(Lit.int .i64 x.Y).wf=true
def zL (x:ae):Prop:=True∧True
theorem Zp (x:ae) (h:zL x):yt x=some x:=by
 unfold yt
 rfl
theorem Zq (x:ae) (h:zL x):yN x x=some true:=by
 unfold yN
 simp []
theorem X6 (l:(List ae)) (h:((∀a∈l,RX a)∧l.length≤maxLen)) {left:Int} (h0:0≤left) (h1:left≤1048576):Ev (wE l left) (fun v=>v≤left∧(v<0∨(l.length≤1048576∧∀a∈l,zL a))):=by
 obtain ⟨hw,hl⟩:=h
 rw [maxLen_eq] at hl
 unfold wE
 rw [dP (n:=left - (l.length:Int)) (by omega) (by omega)]
 refine Ev.ite (fun _=>Ev.ret ⟨by omega,.inl (by omega)⟩) fun c=>?_
 exact Ev.ret ⟨by omega,.inr ⟨by omega,fun a _=>⟨trivial,trivial⟩⟩⟩
theorem X7 (l:(List ae)) (h:(l.length≤1048576∧∀a∈l,zL a)):wF l=some l:=by
 have hl:=h.1
 unfold wF mkl
 rw [if_pos (by constructor<;>omega),Option.bind_some]
 rw [copyS (f:=pg l) l _ (by simp) (by omega) ?_ ?_]
 ·rfl
 ·intro i hi out ho
  unfold pg
  simp only
  rw [if_pos (by omega),dI hi,Option.bind_some,Zp l[i] (h.2 _ (List.getElem_mem hi)),Option.bind_some,dI (by omega:i<out.length),Option.bind_some]
  simp
 ·intro out
  unfold pg
  simp
theorem X8 (l:(List ae)) (h:(l.length≤1048576∧∀a∈l,zL a)):wM l l=some true:=by
 have hl:=h.1
 unfold wM
 rw [if_neg (by simp),AB (n:=l.length) (by omega) ?_ ?_]
 ·rfl
 ·intro i hi
  unfold vI
  rw [if_pos (by omega),dI hi]
  simp only [Option.bind_some]
  rw [Zq l[i] (h.2 _ (List.getElem_mem hi))]
  rfl
 ·unfold vI
  rw [if_neg (by omega)]
theorem Ip (l:(List Int)) (h:((∀a∈l,(Lit.int .i64 a).wf=true)∧l.length≤maxLen)) {left:Int} (h0:0≤left) (h1:left≤1048576):Ev (oI l left) (fun v=>v≤left∧(v<0∨(l.length≤1048576∧∀a∈l,True))):=by
 obtain ⟨hw,hl⟩:=h
 rw [maxLen_eq] at hl
 unfold oI
 rw [dP (n:=left - (l.length:Int)) (by omega) (by omega)]
 refine Ev.ite (fun _=>Ev.ret ⟨by omega,.inl (by omega)⟩) fun c=>?_
 exact Ev.ret ⟨by omega,.inr ⟨by omega,fun a _=>trivial⟩⟩
theorem Iq (l:(List Int)) (h:(l.length≤1048576∧∀a∈l,True)):oJ l=some l:=by
 have hl:=h.1
 unfold oJ mkl
 rw [if_pos (by constructor<;>omega),Option.bind_some]
 rw [copyS (f:=pq l) l _ (by simp) (by omega) ?_ ?_]
 ·rfl
 ·intro i hi out ho
  unfold pq
  simp only
  rw [if_pos (by omega),dI hi,Option.bind_some,dI (by omega:i<out.length),Option.bind_some]
  simp
 ·intro out
  unfold pq
  simp
theorem Ir (l:(List Int)) (h:(l.length≤1048576∧∀a∈l,True)):oO l l=some true:=by
 have hl:=h.1
 unfold oO
 rw [if_neg (by simp),AB (n:=l.length) (by omega) ?_ ?_]
 ·rfl
 ·intro i hi
  unfold vJ
  rw [if_pos (by omega),dI hi]
  simp only [Option.bind_some]
  simp
 ·unfold vJ
  rw [if_neg (by omega)]
def N8 (x:bT):Prop:=x.Name.size≤maxLen∧((∀a∈x.Ring,(Lit.int .i64 a).wf=true)∧x.Ring.length≤maxLen)
def xO (x:bT):Prop:=x.Name.size≤1048576∧(x.Ring.length≤1048576∧∀a∈x.Ring,True)
theorem acG (x:bT) (h:N8 x) {left:Int} (h0:0≤left) (h1:left≤1048576):Ev (Af x left) (fun v=>v≤left∧(v<0∨xO x)):=by
 obtain ⟨w0,w1⟩:=h
 unfold Af
 rw [maxLen_eq] at w0
 rw [dP (n:=left - (x.Name.size:Int)) (by omega) (by omega)]
 refine Ev.ite (fun _=>Ev.ret ⟨by omega,.inl (by omega)⟩) fun c0=>?_
 refine Ev.bind (Ip x.Ring w1 (left:=left - (x.Name.size:Int)) (by omega) (by omega)) fun v1 q1=>?_
 refine Ev.ite (fun _=>Ev.ret ⟨by omega,.inl (by omega)⟩) fun c1=>?_
 exact Ev.ret ⟨by omega,.inr ⟨by omega,q1.2.resolve_left c1⟩⟩
theorem acH (x:bT) (h:xO x):Ai x=some x:=by
 unfold Ai
 rw [Iq x.Ring h.2,Option.bind_some]
theorem acI (x:bT) (h:xO x):Au x x=some true:=by
 unfold Au
 simp [Ir x.Ring (h.2)]
theorem Zr (l:(List bT)) (h:((∀a∈l,N8 a)∧l.length≤maxLen)) {left:Int} (h0:0≤left) (h1:left≤1048576):Ev (yj l left) (fun v=>v≤left∧(v<0∨(l.length≤1048576∧∀a∈l,xO a))):=by
 obtain ⟨hw,hl⟩:=h
 rw [maxLen_eq] at hl
 unfold yj
 rw [dP (n:=left - (l.length:Int)) (by omega) (by omega)]
 refine Ev.ite (fun _=>Ev.ret ⟨by omega,.inl (by omega)⟩) fun c=>?_
 refine Ev.bind (Zo (f:=qR l) l (fun a=>xO a) (by omega) (fun i hi u hu1 hu2=>?_) (fun u=>?_) (left:=left - (l.length:Int)) (by omega) (by omega)) fun r hr=>?_
 ·
  obtain ⟨v,v1,v2,v3⟩:=acG l[i] (hw _ (List.getElem_mem hi)) hu1 hu2
  refine ⟨v,v2,v3,?_⟩
  unfold qR
  simp only
  rw [if_pos (by omega),dI hi,Option.bind_some,v1,Option.bind_some]
 ·unfold qR
  simp only
  rw [if_neg (by omega)]
 ·rcases hr with rfl | ⟨v,rfl,g1,g2,g3⟩
  ·exact Ev.ret ⟨by omega,.inl (by omega)⟩
  ·exact Ev.ret ⟨by omega,.inr ⟨by omega,g3⟩⟩
theorem Zt (l:(List bT)) (h:(l.length≤1048576∧∀a∈l,xO a)):yu l=some l:=by
 have hl:=h.1
 unfold yu mkl
 rw [if_pos (by constructor<;>omega),Option.bind_some]
 rw [copyS (f:=qV l) l _ (by simp) (by omega) ?_ ?_]
 ·rfl
 ·intro i hi out ho
  unfold qV
  simp only
  rw [if_pos (by omega),dI hi,Option.bind_some,acH l[i] (h.2 _ (List.getElem_mem hi)),Option.bind_some,dI (by omega:i<out.length),Option.bind_some]
  simp
 ·intro out
  unfold qV
  simp
theorem Zu (l:(List bT)) (h:(l.length≤1048576∧∀a∈l,xO a)):yO l l=some true:=by
 have hl:=h.1
 unfold yO
 rw [if_neg (by simp),AB (n:=l.length) (by omega) ?_ ?_]
 ·rfl
 ·intro i hi
  unfold wX
  rw [if_pos (by omega),dI hi]
  simp only [Option.bind_some]
  rw [acI l[i] (h.2 _ (List.getElem_mem hi))]
  rfl
 ·unfold wX
  rw [if_neg (by omega)]
def LW (x:aB):Prop:=(Lit.int .i64 x.Width).wf=true∧(Lit.int .i64 x.Height).wf=true∧((∀a∈x.bG,RX a)∧x.bG.length≤maxLen)∧((∀a∈x.aG,N8 a)∧x.aG.length≤maxLen)
def lU (x:aB):Prop:=True∧True∧(x.bG.length≤1048576∧∀a∈x.bG,zL a)∧(x.aG.length≤1048576∧∀a∈x.aG,xO a)
theorem We (x:aB) (h:LW x) {left:Int} (h0:0≤left) (h1:left≤1048576):Ev (ug x left) (fun v=>v≤left∧(v<0∨lU x)):=by
 obtain ⟨w0,w1,w2,w3⟩:=h
 unfold ug
 refine Ev.bind (X6 x.bG w2 (left:=left) (by omega) (by omega)) fun v2 q2=>?_
 refine Ev.ite (fun _=>Ev.ret ⟨by omega,.inl (by omega)⟩) fun c2=>?_
 refine Ev.bind (Zr x.aG w3 (left:=v2) (by omega) (by omega)) fun v3 q3=>?_
 refine Ev.ite (fun _=>Ev.ret ⟨by omega,.inl (by omega)⟩) fun c3=>?_
 exact Ev.ret ⟨by omega,.inr ⟨trivial,trivial,q2.2.resolve_left c2,q3.2.resolve_left c3⟩⟩
theorem Wh (x:aB) (h:lU x):uk x=some x:=by
 unfold uk
 rw [X7 x.bG h.2.2.1,Option.bind_some,Zt x.aG h.2.2.2,Option.bind_some]
theorem Wi (x:aB) (h:lU x):uI x x=some true:=by
 unfold uI
 simp [X8 x.bG (h.2.2.1),Zu x.aG (h.2.2.2)]
def DT (x:aI):Prop:=x.jr.size≤maxLen∧(Lit.int .i64 x.iK).wf=true∧(Lit.int .i64 x.Bl).wf=true
def oD (x:aI):Prop:=x.jr.size≤1048576∧True∧True
theorem OD (x:aI) (h:DT x) {left:Int} (h0:0≤left) (h1:left≤1048576):Ev (sH x left) (fun v=>v≤left∧(v<0∨oD x)):=by
 obtain ⟨w0,w1,w2⟩:=h
 unfold sH
 rw [maxLen_eq] at w0
 rw [dP (n:=left - (x.jr.size:Int)) (by omega) (by omega)]
 refine Ev.ite (fun _=>Ev.ret ⟨by omega,.inl (by omega)⟩) fun c0=>?_
 exact Ev.ret ⟨by omega,.inr ⟨by omega,trivial,trivial⟩⟩
theorem OE (x:aI) (h:oD x):sJ x=some x:=by
 unfold sJ
 rfl
theorem OG (x:aI) (h:oD x):sQ x x=some true:=by
 unfold sQ
 simp []
theorem Wj (l:(List aI)) (h:((∀a∈l,DT a)∧l.length≤maxLen)) {left:Int} (h0:0≤left) (h1:left≤1048576):Ev (uh l left) (fun v=>v≤left∧(v<0∨(l.length≤1048576∧∀a∈l,oD a))):=by
 obtain ⟨hw,hl⟩:=h
 rw [maxLen_eq] at hl
 unfold uh
 rw [dP (n:=left - (l.length:Int)) (by omega) (by omega)]
 refine Ev.ite (fun _=>Ev.ret ⟨by omega,.inl (by omega)⟩) fun c=>?_
 refine Ev.bind (Zo (f:=nJ l) l (fun a=>oD a) (by omega) (fun i hi u hu1 hu2=>?_) (fun u=>?_) (left:=left - (l.length:Int)) (by omega) (by omega)) fun r hr=>?_
 ·
  obtain ⟨v,v1,v2,v3⟩:=OD l[i] (hw _ (List.getElem_mem hi)) hu1 hu2
  refine ⟨v,v2,v3,?_⟩
  unfold nJ
  simp only
  rw [if_pos (by omega),dI hi,Option.bind_some,v1,Option.bind_some]
 ·unfold nJ
  simp only
  rw [if_neg (by omega)]
 ·rcases hr with rfl | ⟨v,rfl,g1,g2,g3⟩
  ·exact Ev.ret ⟨by omega,.inl (by omega)⟩
  ·exact Ev.ret ⟨by omega,.inr ⟨by omega,g3⟩⟩
theorem Wl (l:(List aI)) (h:(l.length≤1048576∧∀a∈l,oD a)):um l=some l:=by
 have hl:=h.1
 unfold um mkl
 rw [if_pos (by constructor<;>omega),Option.bind_some]
 rw [copyS (f:=nM l) l _ (by simp) (by omega) ?_ ?_]
 ·rfl
 ·intro i hi out ho
  unfold nM
  simp only
  rw [if_pos (by omega),dI hi,Option.bind_some,OE l[i] (h.2 _ (List.getElem_mem hi)),Option.bind_some,dI (by omega:i<out.length),Option.bind_some]
  simp
 ·intro out
  unfold nM
  simp
theorem Wn (l:(List aI)) (h:(l.length≤1048576∧∀a∈l,oD a)):uJ l l=some true:=by
 have hl:=h.1
 unfold uJ
 rw [if_neg (by simp),AB (n:=l.length) (by omega) ?_ ?_]
 ·rfl
 ·intro i hi
  unfold tK
  rw [if_pos (by omega),dI hi]
  simp only [Option.bind_some]
  rw [OG l[i] (h.2 _ (List.getElem_mem hi))]
  rfl
 ·unfold tK
  rw [if_neg (by omega)]
def LX (x:dJ):Prop:=LW x.az∧((∀a∈x.dM,DT a)∧x.dM.length≤maxLen)
def y8 (x:dJ):Prop:=lU x.az∧(x.dM.length≤1048576∧∀a∈x.dM,oD a)
theorem Wp (x:dJ) (h:LX x) {left:Int} (h0:0≤left) (h1:left≤1048576):Ev (uj x left) (fun v=>v≤left∧(v<0∨y8 x)):=by
 obtain ⟨w0,w1⟩:=h
 unfold uj
 refine Ev.bind (We x.az w0 (left:=left) (by omega) (by omega)) fun v0 q0=>?_
 refine Ev.ite (fun _=>Ev.ret ⟨by omega,.inl (by omega)⟩) fun c0=>?_
 refine Ev.bind (Wj x.dM w1 (left:=v0) (by omega) (by omega)) fun v1 q1=>?_
 refine Ev.ite (fun _=>Ev.ret ⟨by omega,.inl (by omega)⟩) fun c1=>?_
 exact Ev.ret ⟨by omega,.inr ⟨q0.2.resolve_left c0,q1.2.resolve_left c1⟩⟩
theorem Wq (x:dJ) (h:y8 x):uq x=some x:=by
 unfold uq
 rw [Wh x.az h.1,Option.bind_some,Wl x.dM h.2,Option.bind_some]
theorem Ws (x:dJ) (h:y8 x):uK x x=some true:=by
 unfold uK
 simp [Wi x.az (h.1),Wn x.dM (h.2)]
def X9 (x:dn):Prop:=(Lit.int .i64 x.X).wf=true∧(Lit.int .i64 x.Y).wf=true∧(Lit.int .i64 x.Width).wf=true∧(Lit.int .i64 x.Length).wf=true
def EK (x:dn):Prop:=True∧True∧True∧True
theorem afL (x:dn) (h:EK x):Cm x=some x:=by
 unfold Cm
 rfl
theorem afM (x:dn) (h:EK x):CX x x=some true:=by
 unfold CX
 simp []
theorem acJ (l:(List dn)) (h:((∀a∈l,X9 a)∧l.length≤maxLen)) {left:Int} (h0:0≤left) (h1:left≤1048576):Ev (Ag l left) (fun v=>v≤left∧(v<0∨(l.length≤1048576∧∀a∈l,EK a))):=by
 obtain ⟨hw,hl⟩:=h
 rw [maxLen_eq] at hl
 unfold Ag
 rw [dP (n:=left - (l.length:Int)) (by omega) (by omega)]
 refine Ev.ite (fun _=>Ev.ret ⟨by omega,.inl (by omega)⟩) fun c=>?_
 exact Ev.ret ⟨by omega,.inr ⟨by omega,fun a _=>⟨trivial,trivial,trivial,trivial⟩⟩⟩
theorem acK (l:(List dn)) (h:(l.length≤1048576∧∀a∈l,EK a)):Aj l=some l:=by
 have hl:=h.1
 unfold Aj mkl
 rw [if_pos (by constructor<;>omega),Option.bind_some]
 rw [copyS (f:=uu l) l _ (by simp) (by omega) ?_ ?_]
 ·rfl
 ·intro i hi out ho
  unfold uu
  simp only
  rw [if_pos (by omega),dI hi,Option.bind_some,afL l[i] (h.2 _ (List.getElem_mem hi)),Option.bind_some,dI (by omega:i<out.length),Option.bind_some]
  simp
 ·intro out
  unfold uu
  simp
theorem acL (l:(List dn)) (h:(l.length≤1048576∧∀a∈l,EK a)):Aw l l=some true:=by
 have hl:=h.1
 unfold Aw
 rw [if_neg (by simp),AB (n:=l.length) (by omega) ?_ ?_]
 ·rfl
 ·intro i hi
  unfold yP
  rw [if_pos (by omega),dI hi]
  simp only [Option.bind_some]
  rw [afM l[i] (h.2 _ (List.getElem_mem hi))]
  rfl
 ·unfold yP
  rw [if_neg (by omega)]
def N9 (x:bU):Prop:=x.Id.size≤maxLen∧x.lM.size≤maxLen∧(Lit.int .i64 x.Number).wf=true∧DT x.jL∧(Lit.int .i64 x.Width).wf=true∧(Lit.int .i64 x.Length).wf=true∧((∀a∈x.fU,X9 a)∧x.fU.length≤maxLen)
def vS (x:bU):Prop:=x.Id.size≤1048576∧x.lM.size≤1048576∧True∧oD x.jL∧True∧True∧(x.fU.length≤1048576∧∀a∈x.fU,EK a)
theorem acM (x:bU) (h:N9 x) {left:Int} (h0:0≤left) (h1:left≤1048576):Ev (Ah x left) (fun v=>v≤left∧(v<0∨vS x)):=by
 obtain ⟨w0,w1,w2,w3,w4,w5,w6⟩:=h
 unfold Ah
 rw [maxLen_eq] at w0
 rw [dP (n:=left - (x.Id.size:Int)) (by omega) (by omega)]
 refine Ev.ite (fun _=>Ev.ret ⟨by omega,.inl (by omega)⟩) fun c0=>?_
 rw [maxLen_eq] at w1
 rw [dP (n:=left - (x.Id.size:Int) - (x.lM.size:Int)) (by omega) (by omega)]
 refine Ev.ite (fun _=>Ev.ret ⟨by omega,.inl (by omega)⟩) fun c1=>?_
 refine Ev.bind (OD x.jL w3 (left:=left - (x.Id.size:Int) - (x.lM.size:Int)) (by omega) (by omega)) fun v3 q3=>?_
 refine Ev.ite (fun _=>Ev.ret ⟨by omega,.inl (by omega)⟩) fun c3=>?_
 refine Ev.bind (acJ x.fU w6 (left:=v3) (by omega) (by omega)) fun v6 q6=>?_
 refine Ev.ite (fun _=>Ev.ret ⟨by omega,.inl (by omega)⟩) fun c6=>?_
 exact Ev.ret ⟨by omega,.inr ⟨by omega,by omega,trivial,q3.2.resolve_left c3,trivial,trivial,q6.2.resolve_left c6⟩⟩
theorem acN (x:bU) (h:vS x):Ak x=some x:=by
 unfold Ak
 rw [OE x.jL h.2.2.2.1,Option.bind_some,acK x.fU h.2.2.2.2.2.2,Option.bind_some]
theorem acO (x:bU) (h:vS x):Az x x=some true:=by
 unfold Az
 simp [OG x.jL (h.2.2.2.1),acL x.fU (h.2.2.2.2.2.2)]
theorem Zv (l:(List bU)) (h:((∀a∈l,N9 a)∧l.length≤maxLen)) {left:Int} (h0:0≤left) (h1:left≤1048576):Ev (yl l left) (fun v=>v≤left∧(v<0∨(l.length≤1048576∧∀a∈l,vS a))):=by
 obtain ⟨hw,hl⟩:=h
 rw [maxLen_eq] at hl
 unfold yl
 rw [dP (n:=left - (l.length:Int)) (by omega) (by omega)]
 refine Ev.ite (fun _=>Ev.ret ⟨by omega,.inl (by omega)⟩) fun c=>?_
 refine Ev.bind (Zo (f:=qU l) l (fun a=>vS a) (by omega) (fun i hi u hu1 hu2=>?_) (fun u=>?_) (left:=left - (l.length:Int)) (by omega) (by omega)) fun r hr=>?_
 ·
  obtain ⟨v,v1,v2,v3⟩:=acM l[i] (hw _ (List.getElem_mem hi)) hu1 hu2
  refine ⟨v,v2,v3,?_⟩
  unfold qU
  simp only
  rw [if_pos (by omega),dI hi,Option.bind_some,v1,Option.bind_some]
 ·unfold qU
  simp only
  rw [if_neg (by omega)]
 ·rcases hr with rfl | ⟨v,rfl,g1,g2,g3⟩
  ·exact Ev.ret ⟨by omega,.inl (by omega)⟩
  ·exact Ev.ret ⟨by omega,.inr ⟨by omega,g3⟩⟩
theorem Zw (l:(List bU)) (h:(l.length≤1048576∧∀a∈l,vS a)):yw l=some l:=by
 have hl:=h.1
 unfold yw mkl
 rw [if_pos (by constructor<;>omega),Option.bind_some]
 rw [copyS (f:=qW l) l _ (by simp) (by omega) ?_ ?_]
 ·rfl
 ·intro i hi out ho
  unfold qW
  simp only
  rw [if_pos (by omega),dI hi,Option.bind_some,acN l[i] (h.2 _ (List.getElem_mem hi)),Option.bind_some,dI (by omega:i<out.length),Option.bind_some]
  simp
 ·intro out
  unfold qW
  simp
theorem Zx (l:(List bU)) (h:(l.length≤1048576∧∀a∈l,vS a)):yQ l l=some true:=by
 have hl:=h.1
 unfold yQ
 rw [if_neg (by simp),AB (n:=l.length) (by omega) ?_ ?_]
 ·rfl
 ·intro i hi
  unfold wY
  rw [if_pos (by omega),dI hi]
  simp only [Option.bind_some]
  rw [acO l[i] (h.2 _ (List.getElem_mem hi))]
  rfl
 ·unfold wY
  rw [if_neg (by omega)]
def Iu (x:ak):Prop:=(Lit.int .i64 x.nI).wf=true∧(Lit.int .i64 x.OJ).wf=true∧(Lit.int .i64 x.X).wf=true∧(Lit.int .i64 x.Y).wf=true∧(Lit.int .i64 x.Turn).wf=true
def qm (x:ak):Prop:=True∧True∧True∧True∧True
theorem RY (x:ak) (h:qm x):pz x=some x:=by
 unfold pz
 rfl
theorem RZ (x:ak) (h:qm x):qg x x=some true:=by
 unfold qg
 simp []
theorem O8 (l:(List ak)) (h:((∀a∈l,Iu a)∧l.length≤maxLen)) {left:Int} (h0:0≤left) (h1:left≤1048576):Ev (nK l left) (fun v=>v≤left∧(v<0∨(l.length≤1048576∧∀a∈l,qm a))):=by
 obtain ⟨hw,hl⟩:=h
 rw [maxLen_eq] at hl
 unfold nK
 rw [dP (n:=left - (l.length:Int)) (by omega) (by omega)]
 refine Ev.ite (fun _=>Ev.ret ⟨by omega,.inl (by omega)⟩) fun c=>?_
 exact Ev.ret ⟨by omega,.inr ⟨by omega,fun a _=>⟨trivial,trivial,trivial,trivial,trivial⟩⟩⟩
theorem O9 (l:(List ak)) (h:(l.length≤1048576∧∀a∈l,qm a)):nN l=some l:=by
 have hl:=h.1
 unfold nN mkl
 rw [if_pos (by constructor<;>omega),Option.bind_some]
 rw [copyS (f:=kM l) l _ (by simp) (by omega) ?_ ?_]
 ·rfl
 ·intro i hi out ho
  unfold kM
  simp only
  rw [if_pos (by omega),dI hi,Option.bind_some,RY l[i] (h.2 _ (List.getElem_mem hi)),Option.bind_some,dI (by omega:i<out.length),Option.bind_some]
  simp
 ·intro out
  unfold kM
  simp
theorem Ph (l:(List ak)) (h:(l.length≤1048576∧∀a∈l,qm a)):nV l l=some true:=by
 have hl:=h.1
 unfold nV
 rw [if_neg (by simp),AB (n:=l.length) (by omega) ?_ ?_]
 ·rfl
 ·intro i hi
  unfold nU
  rw [if_pos (by omega),dI hi]
  simp only [Option.bind_some]
  rw [RZ l[i] (h.2 _ (List.getElem_mem hi))]
  rfl
 ·unfold nU
  rw [if_neg (by omega)]
def Zy (x:jv):Prop:=(Lit.int .i64 x.kD).wf=true∧(Lit.int .i64 x.o8).wf=true∧(Lit.int .i64 x.yg).wf=true∧(Lit.int .i64 x.iK).wf=true
def KE (x:jv):Prop:=True∧True∧True∧True
theorem Zz (x:jv) (h:KE x):yx x=some x:=by
 unfold yx
 rfl
theorem ZA (x:jv) (h:KE x):yR x x=some true:=by
 unfold yR
 simp []
def Ya (x:fM):Prop:=LX x.aS∧((∀a∈x.Leaves,N9 a)∧x.Leaves.length≤maxLen)∧((∀a∈x.bP,Iu a)∧x.bP.length≤maxLen)∧Zy x.yh∧(Lit.int .i64 x.jk).wf=true∧(Lit.int .i64 x.Jb).wf=true∧(Lit.int .i64 x.Ci).wf=true∧(Lit.int .i64 x.Gap).wf=true∧((∀a∈x.Order,(Lit.int .i64 a).wf=true)∧x.Order.length≤maxLen)∧((∀a∈x.G6,(Lit.int .i64 a).wf=true)∧x.G6.length≤maxLen)
def Dn (x:fM):Prop:=y8 x.aS∧(x.Leaves.length≤1048576∧∀a∈x.Leaves,vS a)∧(x.bP.length≤1048576∧∀a∈x.bP,qm a)∧KE x.yh∧True∧True∧True∧True∧(x.Order.length≤1048576∧∀a∈x.Order,True)∧(x.G6.length≤1048576∧∀a∈x.G6,True)
theorem afN (x:fM) (h:Ya x) {left:Int} (h0:0≤left) (h1:left≤1048576):Ev (Cj x left) (fun v=>v≤left∧(v<0∨Dn x)):=by
 obtain ⟨w0,w1,w2,w3,w4,w5,w6,w7,w8,w9⟩:=h
 unfold Cj
 refine Ev.bind (Wp x.aS w0 (left:=left) (by omega) (by omega)) fun v0 q0=>?_
 refine Ev.ite (fun _=>Ev.ret ⟨by omega,.inl (by omega)⟩) fun c0=>?_
 refine Ev.bind (Zv x.Leaves w1 (left:=v0) (by omega) (by omega)) fun v1 q1=>?_
 refine Ev.ite (fun _=>Ev.ret ⟨by omega,.inl (by omega)⟩) fun c1=>?_
 refine Ev.bind (O8 x.bP w2 (left:=v1) (by omega) (by omega)) fun v2 q2=>?_
 refine Ev.ite (fun _=>Ev.ret ⟨by omega,.inl (by omega)⟩) fun c2=>?_
 refine Ev.bind (Ip x.Order w8 (left:=v2) (by omega) (by omega)) fun v8 q8=>?_
 refine Ev.ite (fun _=>Ev.ret ⟨by omega,.inl (by omega)⟩) fun c8=>?_
 refine Ev.bind (Ip x.G6 w9 (left:=v8) (by omega) (by omega)) fun v9 q9=>?_
 refine Ev.ite (fun _=>Ev.ret ⟨by omega,.inl (by omega)⟩) fun c9=>?_
 exact Ev.ret ⟨by omega,.inr ⟨q0.2.resolve_left c0,q1.2.resolve_left c1,q2.2.resolve_left c2,⟨trivial,trivial,trivial,trivial⟩,trivial,trivial,trivial,trivial,q8.2.resolve_left c8,q9.2.resolve_left c9⟩⟩
theorem afO (x:fM) (h:Dn x):uw x=some x:=by
 unfold uw
 rw [Wq x.aS h.1,Option.bind_some,Zw x.Leaves h.2.1,Option.bind_some,O9 x.bP h.2.2.1,Option.bind_some,Zz x.yh h.2.2.2.1,Option.bind_some,Iq x.Order h.2.2.2.2.2.2.2.2.1,Option.bind_some,Iq x.G6 h.2.2.2.2.2.2.2.2.2,Option.bind_some]
theorem afP (x:fM) (h:Dn x):CY x x=some true:=by
 unfold CY
 simp [Ws x.aS (h.1),Zx x.Leaves (h.2.1),Ph x.bP (h.2.2.1),ZA x.yh (h.2.2.2.1),Ir x.Order (h.2.2.2.2.2.2.2.2.1),Ir x.G6 (h.2.2.2.2.2.2.2.2.2)]
theorem vT (n a b:Int):bg n a b=some (decide (a≤n∧n≤b)):=by
 unfold bg
 rw [Bool.decide_and]
theorem UA (n a b:Int):bM n a b=some (decide (a≤n∧n≤b)):=by
 unfold bM
 rw [Bool.decide_and]
theorem acP (s:ByteArray) (i:Int):uD s i=lg s i:=by
 unfold uD lg
 by_cases c:i< (s.size:Int)
 ·rw [if_pos c,if_pos c]
  cases bt s i with
  | none=>rfl
  | some x=>
   have d1:decide (x≥97)=!decide (x<97):=by rw [←decide_not];exact decide_eq_decide.2 (by omega)
   have d2:decide (x≤122)=!decide (x>122):=by rw [←decide_not];exact decide_eq_decide.2 (by omega)
   have d3:decide (x≥48)=!decide (x<48):=by rw [←decide_not];exact decide_eq_decide.2 (by omega)
   have d4:decide (x≤57)=!decide (x>57):=by rw [←decide_not];exact decide_eq_decide.2 (by omega)
   simp only [Option.bind_some,oK,wG,d1,d2,d3,d4]
   by_cases c1:x<97<;>by_cases c2:x>122<;>by_cases c3:x<48<;>by_cases c4:x>57<;>simp [c1,c2,c3,c4]
 ·rw [if_neg c,if_neg c]
theorem Wu (s:ByteArray):∃v,qL s=some v∧uF s=some v:=by
 unfold qL uF
 by_cases c0:s.size=0
 ·have hs:=acF c0
  refine ⟨false,?_,?_⟩
  ·rw [if_pos hs];rfl
  ·rw [if_pos (by omega)];rfl
 ·have hs:¬s=⟨#[]⟩:=fun h=>c0 (by rw [h];rfl)
  rw [if_neg hs,if_neg (show ¬((s.size:Int) <1) by omega)]
  by_cases c1:(s.size:Int) >10
  ·rw [if_pos c1,if_pos c1]
   exact ⟨false,rfl,rfl⟩
  ·rw [if_neg c1,if_neg c1]
   obtain ⟨b,hb,hb1,hb2⟩:=abv (s:=s) (i:=0) (by omega)
   have hb':bt s 0=some b:=hb
   rw [hb']
   have hloop:∃o,aT (lg s) 0=some o:=by
    refine X4 s.size (by omega) (fun i hi=>?_) ⟨.inl (),?_⟩
    ·obtain ⟨x,hx,_⟩:=abv (s:=s) hi
     unfold lg
     rw [if_pos (by omega),hx]
     simp only [Option.bind_some,oK,wG]
     split
     ·simp
     ·simp only [Option.bind_some]
      split
      ·exact .inr ⟨_,rfl⟩
      ·exact .inl rfl
    ·unfold lg
     rw [if_neg (by omega)]
   obtain ⟨o,ho⟩:=hloop
   have ho2:aT (uD s) 0=some o:=by rw [Io (acP s)];exact ho
   rw [ho,ho2]
   have e:(if b<97 then some true else some (decide (b>122)))=some (!(decide (b≥97)&&decide (b≤122))):=by
    have d1:decide (b≥97)=!decide (b<97):=by rw [←decide_not];exact decide_eq_decide.2 (by omega)
    have d2:decide (b≤122)=!decide (b>122):=by rw [←decide_not];exact decide_eq_decide.2 (by omega)
    rw [d1,d2]
    by_cases c2:b<97<;>by_cases c3:b>122<;>simp [c2,c3]
   simp only [Option.bind_some,oK]
   rw [e]
   simp only [Option.bind_some]
   split
   ·exact ⟨false,rfl,rfl⟩
   ·cases o with
    | inl u=>exact ⟨true,rfl,rfl⟩
    | inr r=>exact ⟨r,rfl,rfl⟩
theorem vin (n a b:Int):bM n a b=bg n a b:=rfl
theorem ai0 (a b c:ae):lN a b c=pO a b c:=by
 unfold lN zN pO
 simp only [Option.bind_some]
theorem apF (a b:Int):xJ a b=some (min2 a b):=by
 unfold xJ min2
 split<;>split<;>first | rfl | (congr 1;omega)
theorem apG (a b:Int):xK a b=some (max2 a b):=by
 unfold xK max2
 split<;>split<;>first | rfl | (congr 1;omega)
theorem von (a b p:ae):oL a b p=wW a b p:=by
 unfold oL wW
 simp only [ai0,apF,apG,vin,Option.bind_some]
theorem akZ (a b c d:ae):qX a b c d=oM a b c d:=by
 unfold qX oM
 simp only [ai0]
theorem anv (a b c d:ae):yA a b c d=oN a b c d:=by
 unfold yA oN
 simp only [akZ,von]
theorem Iw (a b c:ae):∃v,pO a b c=some v:=by
 unfold pO
 split
 ·exact ⟨_,rfl⟩
 ·split<;>exact ⟨_,rfl⟩
theorem Og (a b c:ae):∃v,wW a b c=some v:=by
 obtain ⟨x,hx⟩:=Iw a b c
 unfold wW bg
 rw [hx]
 simp only [Option.bind_some]
 split
 ·split<;>exact ⟨_,rfl⟩
 ·exact ⟨_,rfl⟩
theorem acQ (a b c d:ae):∃v,oM a b c d=some v:=by
 obtain ⟨x,hx⟩:=Iw a b c
 obtain ⟨y,hy⟩:=Iw a b d
 obtain ⟨z,hz⟩:=Iw c d a
 obtain ⟨w,hw⟩:=Iw c d b
 unfold oM
 rw [hx,hy,hz,hw]
 simp only [Option.bind_some]
 split<;>exact ⟨_,rfl⟩
theorem acR (a b c d:ae):∃v,oN a b c d=some v:=by
 obtain ⟨x,hx⟩:=acQ a b c d
 obtain ⟨y,hy⟩:=Og a b c
 obtain ⟨z,hz⟩:=Og a b d
 obtain ⟨w,hw⟩:=Og c d a
 obtain ⟨u,hu⟩:=Og c d b
 unfold oN
 rw [hx,hy,hz,hw,hu]
 simp only [Option.bind_some]
 cases x<;>cases y<;>cases z<;>cases w<;>exact ⟨_,rfl⟩
theorem Si {k n:Nat} (hn:0<n):md (k:Int) (n:Int)=some ((k % n:Nat):Int):=by
 unfold md
 rw [if_neg (by omega),Int.tmod_eq_emod_of_nonneg (by omega)]
 rfl
theorem Wv {α:Type} {p:List α} {k:Nat} (hp:0<p.length):∃x,rd p ((k % p.length:Nat):Int)=some x:=⟨_,dI (Nat.mod_lt _ hp)⟩
theorem anw (p:List ae):yB p=qO p:=by
 unfold yB qO
 congr 1
 refine Io (fun s=>?_) _
 obtain ⟨a,i⟩:=s
 unfold AY rJ
 simp only
 split
 ·cases h1:rd p i<;>cases h2:md (w64 (i+1)) (p.length:Int)<;>simp only [Option.bind_some,Option.bind_none]
  rename_i x y
  cases rd p y<;>rfl
 ·rfl
theorem afQ (p:List ae) (hp:p.length≤1048576):∃v,qO p=some v:=by
 have:Ev (aT (rJ p) (0,0)) (fun _=>True):=by
  refine Ev.loop (fun s:Int×Int=>0≤s.2∧s.2≤(p.length:Int)) (fun s:Int×Int=>((p.length:Int) - s.2).toNat) ?_ ⟨Int.le_refl _,by simp only;omega⟩
  rintro ⟨a,i⟩ ⟨i0,i1⟩
  unfold rJ
  simp only at i0 i1 ⊢
  refine Ev.ite (fun hc=>?_) fun _=>Ev.ret trivial
  obtain ⟨j,rfl⟩:∃j:Nat,i=(j:Int):=⟨i.toNat,by omega⟩
  refine Ev.bind (Ev.rd i0 hc) fun x _=>?_
  rw [dX (by omega),Si (by omega)]
  obtain ⟨y,hy⟩:=Wv (p:=p) (k:=j+1) (by omega)
  simp only [Option.bind_some,hy]
  exact Ev.ret ⟨⟨by simp only;omega,by simp only;omega⟩,by simp only;omega⟩
 obtain ⟨v,hv,_⟩:=this
 unfold qO
 rw [hv]
 exact ⟨_,rfl⟩
theorem ak0 (p:ae):∃v,rH p=some v:=by
 unfold rH bg
 simp only [Option.bind_some]
 split<;>exact ⟨_,rfl⟩
theorem ak1 (p:List ae) (hp:p.length≤1048576):aT (gZ p) 0=some (.inl ())∨aT (gZ p) 0=some (.inr false):=by
 rcases akW (f:=gZ p) p (fun _=>True) (by omega) (fun i hi=>by
  unfold gZ
  rw [if_pos (by omega),dI hi,Option.bind_some]
  obtain ⟨v,hv⟩:=ak0 p[i]
  rw [hv,Option.bind_some]
  cases v
  ·exact .inr rfl
  ·exact .inl ⟨rfl,trivial⟩) (by unfold gZ;rw [if_neg (by omega)]) with ⟨h,_⟩ | h
 ·exact .inl h
 ·exact .inr h
theorem anx (p:List ae) (i:Int) (x y:ae):yC i p x y=ig p i x y:=by
 funext k
 unfold yC ig
 simp only [anv]
theorem aic (p:List ae):yD p=iF p:=by
 funext i
 unfold yD iF
 simp only [von,anx]
theorem apH (p:List ae):DW p=gZ p:=rfl
theorem afR (p:List ae) (hp:p.length≤1048576) (i:Int) (x y:ae) {k:Int} (hk:0≤k):∃o,aT (ig p i x y) k=some o:=by
 have:Ev (aT (ig p i x y) k) (fun _=>True):=by
  refine Ev.loop (fun s=>0≤s) (fun s=>((p.length:Int) - s).toNat) ?_ hk
  intro s h0
  unfold ig
  refine Ev.ite (fun hc=>?_) fun _=>Ev.ret trivial
  obtain ⟨j,rfl⟩:∃j:Nat,s=(j:Int):=⟨s.toNat,by omega⟩
  rw [dX (by omega),Si (by omega)]
  obtain ⟨y2,hy⟩:=Wv (p:=p) (k:=j+1) (by omega)
  simp only [Option.bind_some,hy,dI (show j<p.length by omega)]
  obtain ⟨v,hv⟩:=acR x y p[j] y2
  rw [hv]
  simp only [Option.bind_some]
  refine Ev.bind (P:=fun _=>True) (Ev.ite (fun _=>Ev.ret trivial) fun _=>Ev.ret trivial) fun t _=>?_
  exact Ev.ite (fun _=>Ev.ret trivial) fun _=>Ev.ret ⟨by omega,by omega⟩
 obtain ⟨v,hv,_⟩:=this
 exact ⟨v,hv⟩
theorem ZB (p:List ae) (hp:p.length≤1048576):∃o,aT (iF p) 0=some o:=by
 refine X4 p.length (by omega) (fun i hi=>?_) ⟨_,by unfold iF;rw [if_neg (by omega)]⟩
 unfold iF
 obtain ⟨y,hy⟩:=Wv (p:=p) (k:=i+1) (by omega)
 obtain ⟨z,hz⟩:=Wv (p:=p) (k:=i+2) (by omega)
 have e2:w64 ((i:Int)+2)=((i+2:Nat):Int):=by rw [dP (by omega) (by omega)];omega
 rw [if_pos (by omega),dX (by omega),e2,Si (by omega),Si (by omega),dI hi]
 simp only [Option.bind_some,hy,hz]
 obtain ⟨u,hu⟩:=Og p[i] y z
 obtain ⟨v,hv⟩:=Og y z p[i]
 obtain ⟨o,ho⟩:=afR p hp (i:Int) p[i] y (k:=((i+2:Nat):Int)) (by omega)
 rw [hu,hv,ho]
 simp only [Option.bind_some]
 have fin:∀t:Bool,(if t=true then (some (.inr (.inr false)):Option (Int ⊕ (Unit ⊕ Bool))) else (match (generalizing:=false) o with | .inl _=>some (.inl ((i+1:Nat):Int)) | .inr r2=>some (.inr (.inr r2))))=some (.inl (((i+1:Nat):Int)))∨∃r,(if t=true then (some (.inr (.inr false)):Option (Int ⊕ (Unit ⊕ Bool))) else (match (generalizing:=false) o with | .inl _=>some (.inl ((i+1:Nat):Int)) | .inr r2=>some (.inr (.inr r2))))=some (.inr r):=by
  intro t
  cases t
  ·cases o
   ·exact .inl rfl
   ·exact .inr ⟨_,rfl⟩
  ·exact .inr ⟨_,rfl⟩
 split
 ·exact fin true
 ·cases u
  ·exact fin v
  ·exact fin true
theorem aid (p:List ae) (hp:p.length≤1048576):∃v,CB p=some v∧nP p=some v:=by
 unfold CB nP vH
 simp only [apH,aic,anw]
 by_cases c1:(p.length:Int) <3
 ·rw [if_pos (.inl c1),if_pos c1]
  exact ⟨_,rfl,rfl⟩
 by_cases c2:(p.length:Int) >24
 ·rw [if_pos (.inr c2),if_neg c1,if_pos c2]
  exact ⟨_,rfl,rfl⟩
 rw [if_neg (fun h=>h.elim c1 c2),if_neg c1,if_neg c2]
 obtain ⟨o,ho⟩:=ZB p hp
 obtain ⟨a,ha⟩:=afQ p hp
 rw [ho,ha]
 rcases ak1 p hp with h | h<;>rw [h]
 ·cases o<;>exact ⟨_,rfl,rfl⟩
 ·exact ⟨_,rfl,rfl⟩
theorem I7 {f g:Int→Option (Int ⊕ (Unit ⊕ Bool))} {n:Nat} (hn:n≤1048576)
 (h:∀i:Nat,i<n→∃w:Bool,f (i:Int)=(if w=true then some (.inl (((i+1:Nat):Int))) else some (.inr (.inr false)))∧g (i:Int)=(if w=true then some (.inl (((i+1:Nat):Int))) else some (.inr (.inr false))))
 (hf:f (n:Int)=some (.inr (.inl ()))) (hg:g (n:Int)=some (.inr (.inl ()))):∃o,aT f 0=some o∧aT g 0=some o∧(o= .inl ()∨o= .inr false):=by
 have key:∀(m i:Nat),i+m=n→∃o,aT f (i:Int)=some o∧aT g (i:Int)=some o∧(o= .inl ()∨o= .inr false):=by
  intro m
  induction m with
  | zero=>
   intro i hi
   obtain rfl:i=n:=by omega
   exact ⟨_,dG hf,dG hg,.inl rfl⟩
  | succ m ih=>
   intro i hi
   obtain ⟨w,w1,w2⟩:=h i (by omega)
   cases w with
   | true=>
    rw [if_pos rfl] at w1 w2
    rw [iO w1,iO w2]
    exact ih (i+1) (by omega)
   | false=>exact ⟨_,dG w1,dG w2,.inr rfl⟩
 exact key n 0 (by omega)
theorem ai1 (d:aB) (ring:List Int):vw d ring=gW d.bG ring:=by
 unfold vw gW
 congr 1
 refine Io (fun s=>?_) _
 obtain ⟨i,out⟩:=s
 unfold AX o5
 simp only [vin]
 split
 ·cases rd ring i with
  | none=>rfl
  | some x=>rfl
 ·rfl
theorem abw (pts:List ae) (ring:List Int) (hp:pts.length≤1048576) (hr:ring.length≤1048576):Ev (gW pts ring) (fun r=>r.1.length≤1048576):=by
 unfold gW
 refine Ev.bind (P:=fun o=>match o with | .inl l=>l.length≤1048576 | .inr r=>r.1.length≤1048576) (Ev.loop (fun s:Int×List ae=>0≤s.1∧s.1≤(ring.length:Int)∧(s.2.length:Int)≤s.1) (fun s:Int×List ae=>((ring.length:Int) - s.1).toNat) ?_ ⟨Int.le_refl _,by simp only;omega,by simp⟩) fun o ho=>?_
 ·rintro ⟨i,out⟩ ⟨i0,i1,i2⟩
  unfold o5 bg
  simp only at i0 i1 i2 ⊢
  refine Ev.ite (fun hc=>?_) fun _=>Ev.ret (by simp only;omega)
  refine Ev.bind (Ev.rd i0 hc) fun x _=>?_
  simp only [Option.bind_some,Bool.and_eq_true,decide_eq_true_eq]
  refine Ev.ite (fun hx=>?_) fun _=>Ev.ret (by simp)
  have e:w64 ((pts.length:Int) - 1)=(pts.length:Int) - 1:=dP (by omega) (by omega)
  rw [e] at hx
  refine Ev.bind (Ev.rd hx.1 (by omega)) fun y _=>?_
  refine Ev.bind (Ev.apd (by simp;omega)) fun l hl=>?_
  subst hl
  rw [dP (n:=i+1) (by omega) (by omega)]
  exact Ev.ret ⟨⟨by simp only;omega,by simp only;omega,by simp only [List.length_append,List.length_singleton];omega⟩,by simp only;omega⟩
 ·cases o with
  | inl l=>exact Ev.ret ho
  | inr r=>exact Ev.ret ho
theorem apI (d:aB) {i:Nat} (hi:i<d.bG.length) (hp:d.bG.length≤1048576):
 ∃b:Bool,aT (kT d (i:Int)) 0=some (if b=true then .inr false else .inl ())∧dS (d.bG.take i) d.bG[i]=some b:=by
 have hl:(d.bG.take i).length=i:=by rw [List.length_take];omega
 have e1:=rZ (f:=kT d (i:Int)) (d.bG.take i) (fun x=>decide (d.bG[i].X=x.X∧d.bG[i].Y=x.Y)) (fun _=>false) (by omega) (fun k hk=>by
  unfold kT
  rw [if_pos (by omega),dI hi,Option.bind_some,dI (show k<d.bG.length by omega),Option.bind_some,List.getElem_take]
  by_cases c:d.bG[i].X=(d.bG[k]'(by omega)).X∧d.bG[i].Y=(d.bG[k]'(by omega)).Y
  ·rw [if_pos c,if_pos (decide_eq_true c)]
  ·rw [if_neg c,if_neg (by simpa using c)]) (by unfold kT;rw [if_neg (by omega)])
 have e2:=rZ (f:=dR (d.bG.take i) d.bG[i]) (d.bG.take i) (fun x=>decide (d.bG[i].X=x.X∧d.bG[i].Y=x.Y)) (fun k=>(k:Int)) (by omega) (fun k hk=>by
  unfold dR
  rw [if_pos (by omega),dI hk,Option.bind_some]
  by_cases c:d.bG[i].X=(d.bG.take i)[k].X∧d.bG[i].Y=(d.bG.take i)[k].Y
  ·rw [if_pos c,if_pos (decide_eq_true c)]
  ·rw [if_neg c,if_neg (by simpa using c)]) (by unfold dR;rw [if_neg (by omega)])
 unfold dS gI
 rcases e1 with ⟨a1,a2⟩ | ⟨k,hk,a1,_,a2⟩<;>rcases e2 with ⟨b1,b2⟩ | ⟨m,hm,b1,_,b2⟩
 ·exact ⟨false,by rw [a2];rfl,by rw [b2];rfl⟩
 ·have:=a1 _ (List.getElem_mem hm)
  rw [b1] at this
  cases this
 ·have:=b1 _ (List.getElem_mem hk)
  rw [a1] at this
  cases this
 ·refine ⟨true,by rw [a2];rfl,?_⟩
  rw [b2]
  show some (decide ((m:Int)≥0))=_
  rw [decide_eq_true (by omega)]
theorem afS (d:aB) (hp:d.bG.length≤1048576) {i:Nat} (hi:i<d.bG.length):
 ∃w:Bool,kU d (i:Int)=(if w=true then some (.inl (((i+1:Nat):Int))) else some (.inr (.inr false)))∧jm d (i:Int)=(if w=true then some (.inl (((i+1:Nat):Int))) else some (.inr (.inr false))):=by
 obtain ⟨b,b1,b2⟩:=apI d hi hp
 have hs:slc d.bG 0 (i:Int)=some (d.bG.take i):=by
  unfold slc
  rw [if_pos ⟨by omega,by omega,by omega⟩]
  simp
 unfold kU jm bg bM
 rw [if_pos (by omega),if_pos (by omega),dI hi,b1,hs,dX (by omega)]
 simp only [Option.bind_some,b2]
 cases (decide (d.bG[i].X≥0)&&decide (d.bG[i].X≤d.Width)) with
 | false=>exact ⟨false,rfl,rfl⟩
 | true=>
  cases (decide (d.bG[i].Y≥0)&&decide (d.bG[i].Y≤d.Height)) with
  | false=>exact ⟨false,rfl,rfl⟩
  | true=>
   cases b with
   | true=>exact ⟨false,rfl,rfl⟩
   | false=>exact ⟨true,rfl,rfl⟩
theorem acS (d:aB) (hb:lU d) {i:Nat} (hi:i<d.aG.length):
 ∃w:Bool,sN d (i:Int)=(if w=true then some (.inl (((i+1:Nat):Int))) else some (.inr (.inr false)))∧iV d (i:Int)=(if w=true then some (.inl (((i+1:Nat):Int))) else some (.inr (.inr false))):=by
 obtain ⟨_,_,⟨hp,_⟩,⟨hf,hF⟩⟩:=hb
 obtain ⟨n,n1,n2⟩:=Wu (d.aG[i]).Name
 obtain ⟨r,r1,r2⟩:=abw d.bG (d.aG[i]).Ring hp (hF _ (List.getElem_mem hi)).2.1
 obtain ⟨q,q1,q2⟩:=aid r.1 r2
 have hc:(i:Int) < (d.aG.length:Int):=by omega
 unfold sN iV
 rw [if_pos hc,if_pos hc,dI hi,dX (by omega)]
 simp only [Option.bind_some,ai1,r1,q1,q2,n1,n2]
 have tail:∀t:Bool,∃w:Bool,(if t=true then (some (.inr (.inr false)):Option (Int ⊕ (Unit ⊕ Bool))) else (if r.2=true then some (!q) else some true).bind fun Le=>if Le=true then some (.inr (.inr false)) else some (.inl ((i+1:Nat):Int)))=(if w=true then some (.inl (((i+1:Nat):Int))) else some (.inr (.inr false))):=by
  intro t
  cases t
  ·cases r.2
   ·exact ⟨false,rfl⟩
   ·cases q
    ·exact ⟨false,rfl⟩
    ·exact ⟨true,rfl⟩
  ·exact ⟨false,rfl⟩
 cases n with
 | false=>exact ⟨false,rfl,rfl⟩
 | true=>
  by_cases c:(i:Int) >0
  ·simp only [if_pos c,if_true]
   rw [LV (by omega) (by omega),dI (show i - 1<d.aG.length by omega)]
   simp only [Option.bind_some]
   obtain ⟨w,hw⟩:=tail (!Op.bytesLess (d.aG[i - 1]'(by omega)).Name.toList (d.aG[i]).Name.toList)
   exact ⟨w,hw,hw⟩
  ·simp only [if_neg c,if_true,Option.bind_some]
   obtain ⟨w,hw⟩:=tail false
   exact ⟨w,hw,hw⟩
theorem abx (d:aB) (hb:lU d):∃v,CE d=some v∧iQ d=some v:=by
 obtain ⟨_,_,⟨hp,_⟩,⟨hf,_⟩⟩:=id hb
 obtain ⟨o1,p1,p2,p3⟩:=I7 (f:=kU d) (g:=jm d) hp (fun i hi=>afS d hp hi) (by unfold kU;rw [if_neg (by omega)]) (by unfold jm;rw [if_neg (by omega)])
 obtain ⟨o2,f1,f2,f3⟩:=I7 (f:=sN d) (g:=iV d) hf (fun i hi=>acS d hb hi) (by unfold sN;rw [if_neg (by omega)]) (by unfold iV;rw [if_neg (by omega)])
 unfold CE iQ yz
 rw [p1,p2,f1,f2]
 simp only [vin,bg,Option.bind_some]
 cases (decide (d.Width≥10)&&decide (d.Width≤20000)) with
 | false=>exact ⟨false,rfl,rfl⟩
 | true=>
  cases (decide (d.Height≥10)&&decide (d.Height≤20000)) with
  | false=>exact ⟨false,rfl,rfl⟩
  | true=>
   by_cases c1:(d.bG.length:Int) >48
   ·simp only [if_pos c1]
    exact ⟨false,rfl,rfl⟩
   ·simp only [if_neg c1]
    cases decide ((d.aG.length:Int) >24) with
    | true=>rcases p3 with rfl | rfl<;>exact ⟨false,rfl,rfl⟩
    | false=>rcases p3 with rfl | rfl<;>rcases f3 with rfl | rfl<;>exact ⟨_,rfl,rfl⟩
theorem LY (l:List Int) (n:Int) (hl:l.length≤1048576):qA l n=some (decide (n∈l)):=by
 unfold qA
 rcases abu (f:=uB l n) l (fun x=>!decide (x=n)) (fun _=>true) (by omega) (fun i hi=>by
  unfold uB
  rw [if_pos (by omega),dI hi,Option.bind_some]
  by_cases c:l[i]=n<;>simp [c]) (by unfold uB;rw [if_neg (by omega)]) with ⟨h1,h2⟩ | ⟨h1,i,hi,h2⟩
 ·rw [h2]
  have:¬n∈l:=fun h=>by
   have:=List.all_eq_true.1 h1 n h
   simp at this
  simp [this]
 ·rw [h2]
  have:n∈l:=by
   rw [List.all_eq_false] at h1
   obtain ⟨x,hx,h⟩:=h1
   simp at h
   exact h ▸ hx
  simp [this]
theorem Iy (l:List Int) (n:Int) (hl:l.length≤1048576):dK l n=some (decide (n∈l)):=by
 unfold dK kF
 rcases abu (f:=iw l n) l (fun x=>!decide (n=x)) (fun i=>(i:Int)) (by omega) (fun i hi=>by
  unfold iw
  rw [if_pos (by omega),dI hi,Option.bind_some]
  by_cases c:n=l[i]<;>simp [c]) (by unfold iw;rw [if_neg (by omega)]) with ⟨h1,h2⟩ | ⟨h1,i,hi,h2⟩
 ·rw [h2]
  have:¬n∈l:=fun h=>by
   have:=List.all_eq_true.1 h1 n h
   simp at this
  simp [this]
 ·rw [h2]
  have:n∈l:=by
   rw [List.all_eq_false] at h1
   obtain ⟨x,hx,h⟩:=h1
   simp at h
   exact h ▸ hx
  simp [this]
theorem Sj {α:Type} {f:Int→Option (Int ⊕ (Unit ⊕ Bool))} (l:List α) (V:α→Bool) (hl:l.length≤1048576)
 (h1:∀(i:Nat) (hi:i<l.length),f (i:Int)=if V l[i]=true then some (.inl (w64 ((i:Int)+1))) else some (.inr (.inr false))) (h2:f (l.length:Int)=some (.inr (.inl ()))):
 aT f 0=some (if l.all V=true then .inl () else .inr false):=by
 rcases rZ (ρ:=Bool) l (fun x=>!V x) (fun _=>false) (by omega) (fun i hi=>by rw [h1 i hi];cases V l[i]<;>rfl) h2 with ⟨a,b⟩ | ⟨i,hi,a,_,b⟩
 ·rw [b,if_pos (List.all_eq_true.2 fun x hx=>by simpa using a x hx)]
 ·have:¬l.all V=true:=fun h=>by
   have e:=List.all_eq_true.1 h _ (List.getElem_mem hi)
   rw [e] at a
   cases a
  rw [b,if_neg this]
theorem UB {α:Type} {f:Int→Option (Int ⊕ (Unit ⊕ Int))} (l:List α) (V:α→Bool) (hl:l.length≤1048576)
 (h1:∀(i:Nat) (hi:i<l.length),f (i:Int)=if (!V l[i])=true then some (.inr (.inr (i:Int))) else some (.inl (w64 ((i:Int)+1)))) (h2:f (l.length:Int)=some (.inr (.inl ()))):
 (l.all V=true∧aT f 0=some (.inl ()))∨(l.all V=false∧∃k:Nat,aT f 0=some (.inr (k:Int))):=by
 rcases rZ l (fun x=>!V x) (fun k=>(k:Int)) (by omega) h1 h2 with ⟨a,b⟩ | ⟨i,hi,a,_,b⟩
 ·exact .inl ⟨List.all_eq_true.2 fun x hx=>by simpa using a x hx,b⟩
 ·refine .inr ⟨?_,i,b⟩
  rw [List.all_eq_false]
  exact ⟨_,List.getElem_mem hi,by simpa using a⟩
theorem ZC {f g:Int→Option (Int ⊕ (Unit ⊕ Bool))} {n:Nat} (hn:n≤1048576) (W:Nat→Bool)
 (h1:∀i:Nat,i<n→f (i:Int)=(if W i=true then some (.inl (((i+1:Nat):Int))) else some (.inr (.inr false))))
 (h2:∀i:Nat,i<n→g (i:Int)=(if W i=true then some (.inl (((i+1:Nat):Int))) else some (.inr (.inr false))))
 (hf:f (n:Int)=some (.inr (.inl ()))) (hg:g (n:Int)=some (.inr (.inl ()))):
 (aT f 0=some (.inl ())∧aT g 0=some (.inl ())∧∀i,i<n→W i=true)∨(aT f 0=some (.inr false)∧aT g 0=some (.inr false)):=by
 have key:∀(m i:Nat),i+m=n→(aT f (i:Int)=some (.inl ())∧aT g (i:Int)=some (.inl ())∧∀k,i≤k→k<n→W k=true)∨(aT f (i:Int)=some (.inr false)∧aT g (i:Int)=some (.inr false)):=by
  intro m
  induction m with
  | zero=>
   intro i hi
   obtain rfl:i=n:=by omega
   exact .inl ⟨dG hf,dG hg,fun k h1 h2=>by omega⟩
  | succ m ih=>
   intro i hi
   have e1:=h1 i (by omega)
   have e2:=h2 i (by omega)
   cases hw:W i with
   | true=>
    rw [hw,if_pos rfl] at e1 e2
    rw [iO e1,iO e2]
    rcases ih (i+1) (by omega) with ⟨a,b,c⟩ | h
    ·refine .inl ⟨a,b,fun k k1 k2=>?_⟩
     by_cases e:k=i
     ·rw [e];exact hw
     ·exact c k (by omega) k2
    ·exact .inr h
   | false=>
    rw [hw,if_neg (by decide)] at e1 e2
    exact .inr ⟨dG e1,dG e2⟩
 rcases key n 0 (by omega) with ⟨a,b,c⟩ | h
 ·exact .inl ⟨a,b,fun i hi=>c i (Nat.zero_le _) hi⟩
 ·exact .inr h
def nms:List ByteArray:=[⟨#[97,115,104]⟩,⟨#[98,101,101,99,104]⟩,⟨#[98,105,114,99,104]⟩,⟨#[99,104,101,114,114,121]⟩,⟨#[101,98,111,110,121]⟩,⟨#[104,111,108,108,121]⟩,⟨#[109,97,112,108,101]⟩,⟨#[111,97,107]⟩,⟨#[114,111,115,101,119,111,111,100]⟩,⟨#[119,97,108,110,117,116]⟩]
theorem fG {a b:Array UInt8} (h:a.toList≠b.toList):¬(⟨a⟩:ByteArray)=⟨b⟩:=fun e=>h (by injection e with e;rw [e])
theorem aie (s:ByteArray):(vz s=some (-1)∧jw s=some (0,false))∨
 ∃(k:Nat) (b:Int) (tb:List (List Int)) (row:List Int),vz s=some (k:Int)∧zQ=some tb∧rd tb (k:Int)=some row∧rd row 0=some b∧0≤b∧b≤100∧jw s=some (b,true):=by
 have hN:zO=some nms:=rfl
 unfold vz
 rw [hN,Option.bind_some]
 rcases rZ (f:=qY s nms) nms (fun x=>decide (x=s)) (fun k=>(k:Int)) (by decide) (fun i hi=>by
  unfold qY
  rw [if_pos (by omega),dI hi,Option.bind_some]
  by_cases c:nms[i]=s
  ·rw [if_pos c,if_pos (decide_eq_true c)]
  ·rw [if_neg c,if_neg (by simpa using c)]) (by unfold qY;rw [if_neg (by omega)]) with ⟨a,b⟩ | ⟨k,hk,a,_,b⟩
 ·left
  rw [b]
  refine ⟨rfl,?_⟩
  have hn:∀x∈nms,¬s=x:=fun x hx e=>by
   have:=a x hx
   rw [e] at this
   simp at this
  simp only [nms,List.mem_cons,forall_eq_or_imp,List.not_mem_nil,false_implies,implies_true,and_true] at hn
  obtain ⟨h1,h2,h3,h4,h5,h6,h7,h8,h9,h10⟩:=hn
  unfold jw pR
  rw [if_neg h1,if_neg h2,if_neg h3,if_neg h4,if_neg h5,if_neg h6,if_neg h7,if_neg h8,if_neg h9,if_neg h10]
  rfl
 ·right
  rw [b]
  have hs:nms[k]=s:=by simpa using a
  have hk':k<10:=hk
  unfold jw pR
  have hc:k=0∨k=1∨k=2∨k=3∨k=4∨k=5∨k=6∨k=7∨k=8∨k=9:=by omega
  rcases hc with rfl | rfl | rfl | rfl | rfl | rfl | rfl | rfl | rfl | rfl
  ·rw [←hs];exact ⟨0,20,_,_,rfl,rfl,rfl,rfl,by decide,by decide,by rw [show nms[0]=(⟨#[97,115,104]⟩:ByteArray) from rfl,if_pos rfl];rfl⟩
  ·rw [←hs];exact ⟨1,35,_,_,rfl,rfl,rfl,rfl,by decide,by decide,by rw [show nms[1]=(⟨#[98,101,101,99,104]⟩:ByteArray) from rfl,if_neg (fG (by decide)),if_pos rfl];rfl⟩
  ·rw [←hs];exact ⟨2,15,_,_,rfl,rfl,rfl,rfl,by decide,by decide,by rw [show nms[2]=(⟨#[98,105,114,99,104]⟩:ByteArray) from rfl,if_neg (fG (by decide)),if_neg (fG (by decide)),if_pos rfl];rfl⟩
  ·rw [←hs];exact ⟨3,50,_,_,rfl,rfl,rfl,rfl,by decide,by decide,by rw [show nms[3]=(⟨#[99,104,101,114,114,121]⟩:ByteArray) from rfl,if_neg (fG (by decide)),if_neg (fG (by decide)),if_neg (fG (by decide)),if_pos rfl];rfl⟩
  ·rw [←hs];exact ⟨4,95,_,_,rfl,rfl,rfl,rfl,by decide,by decide,by rw [show nms[4]=(⟨#[101,98,111,110,121]⟩:ByteArray) from rfl,if_neg (fG (by decide)),if_neg (fG (by decide)),if_neg (fG (by decide)),if_neg (fG (by decide)),if_pos rfl];rfl⟩
  ·rw [←hs];exact ⟨5,5,_,_,rfl,rfl,rfl,rfl,by decide,by decide,by rw [show nms[5]=(⟨#[104,111,108,108,121]⟩:ByteArray) from rfl,if_neg (fG (by decide)),if_neg (fG (by decide)),if_neg (fG (by decide)),if_neg (fG (by decide)),if_neg (fG (by decide)),if_pos rfl];rfl⟩
  ·rw [←hs];exact ⟨6,10,_,_,rfl,rfl,rfl,rfl,by decide,by decide,by rw [show nms[6]=(⟨#[109,97,112,108,101]⟩:ByteArray) from rfl,if_neg (fG (by decide)),if_neg (fG (by decide)),if_neg (fG (by decide)),if_neg (fG (by decide)),if_neg (fG (by decide)),if_neg (fG (by decide)),if_pos rfl];rfl⟩
  ·rw [←hs];exact ⟨7,40,_,_,rfl,rfl,rfl,rfl,by decide,by decide,by rw [show nms[7]=(⟨#[111,97,107]⟩:ByteArray) from rfl,if_neg (fG (by decide)),if_neg (fG (by decide)),if_neg (fG (by decide)),if_neg (fG (by decide)),if_neg (fG (by decide)),if_neg (fG (by decide)),if_neg (fG (by decide)),if_pos rfl];rfl⟩
  ·rw [←hs];exact ⟨8,80,_,_,rfl,rfl,rfl,rfl,by decide,by decide,by rw [show nms[8]=(⟨#[114,111,115,101,119,111,111,100]⟩:ByteArray) from rfl,if_neg (fG (by decide)),if_neg (fG (by decide)),if_neg (fG (by decide)),if_neg (fG (by decide)),if_neg (fG (by decide)),if_neg (fG (by decide)),if_neg (fG (by decide)),if_neg (fG (by decide)),if_pos rfl];rfl⟩
  ·rw [←hs];exact ⟨9,70,_,_,rfl,rfl,rfl,rfl,by decide,by decide,by rw [show nms[9]=(⟨#[119,97,108,110,117,116]⟩:ByteArray) from rfl,if_neg (fG (by decide)),if_neg (fG (by decide)),if_neg (fG (by decide)),if_neg (fG (by decide)),if_neg (fG (by decide)),if_neg (fG (by decide)),if_neg (fG (by decide)),if_neg (fG (by decide)),if_neg (fG (by decide)),if_pos rfl];rfl⟩
theorem afT (x:aI):∃v,uy x=some v∧jY x=some v:=by
 unfold uy jY
 rcases aie x.jr with ⟨h1,h2⟩ | ⟨k,b,tb,row,h1,h2,h3,h4,h5,h6,h7⟩
 ·rw [h1,h2];exact ⟨false,rfl,rfl⟩
 ·rw [h1,h7,h2]
  simp only [Option.bind_some,h3,h4,UA,vT,if_true,zS]
  rw [if_neg (show ¬(k:Int) <0 by omega),dP (n:=b - 15) (by omega) (by omega),dP (n:=b+15) (by omega) (by omega)]
  by_cases c:0≤x.iK∧x.iK≤100
  ·rw [dP (n:=x.iK - b) (by omega) (by omega),decide_eq_true c]
   have e:decide (b - 15≤x.iK∧x.iK≤b+15)=decide (-15≤x.iK - b∧x.iK - b≤15):=decide_eq_decide.2 ⟨fun h=>by omega,fun h=>by omega⟩
   rw [e]
   cases decide (-15≤x.iK - b∧x.iK - b≤15)<;>exact ⟨_,rfl,rfl⟩
  ·rw [decide_eq_false c]
   exact ⟨false,rfl,rfl⟩
noncomputable def Pj (x:aI):Bool:=(uy x).getD false
theorem ai2 (x:aI):uy x=some (Pj x):=by
 obtain ⟨v,h,_⟩:=afT x
 unfold Pj
 rw [h];rfl
theorem ai3 (x:aI):jY x=some (Pj x):=by
 obtain ⟨v,h,h2⟩:=afT x
 unfold Pj
 rw [h,h2];rfl
theorem ak2 (l:List aI) (hl:l.length≤1048576):qZ l=some (l.all Pj):=by
 unfold qZ
 rw [Sj (f:=mM l) l Pj hl (fun i hi=>by
  unfold mM
  rw [if_pos (by omega),dI hi,Option.bind_some,ai2,Option.bind_some]) (by unfold mM;rw [if_neg (by omega)])]
 cases l.all Pj<;>rfl
theorem ak3 (l:List aI) (hl:l.length≤1048576):nR l=some (l.all Pj):=by
 unfold nR eu fE
 rcases UB (f:=dD (fun a0=>iG a0) l) l Pj hl (fun i hi=>by
  unfold dD iG
  rw [if_pos (by omega),dI hi,Option.bind_some]
  simp only [ai3,Option.bind_some]) (by unfold dD;rw [if_neg (by omega)]) with ⟨a,b⟩ | ⟨a,k,b⟩
 ·rw [b,a];rfl
 ·rw [b,a]
  show some (!decide ((k:Int)≥0))=_
  rw [decide_eq_true (by omega)]
  rfl
theorem afU (p:dJ) (hb:y8 p):∃v,CG p=some v∧kV p=some v∧(v=true→p.dM.length=p.az.aG.length):=by
 obtain ⟨hd,hv,_⟩:=hb
 obtain ⟨d,d1,d2⟩:=abx p.az hd
 unfold CG kV
 rw [d1,d2,ak2 _ hv,ak3 _ hv]
 simp only [Option.bind_some]
 cases d with
 | false=>exact ⟨false,rfl,rfl,fun h=>by cases h⟩
 | true=>
  by_cases c:(p.dM.length:Int)=(p.az.aG.length:Int)
  ·rw [if_pos rfl,if_pos rfl,if_pos c,beq_iff_eq.2 c]
   cases p.dM.all Pj<;>exact ⟨_,rfl,rfl,fun _=>by omega⟩
  ·rw [if_pos rfl,if_pos rfl,if_neg c,show ((p.dM.length:Int)==(p.az.aG.length:Int))=false from by simpa using c]
   cases p.dM.all Pj<;>exact ⟨false,rfl,rfl,fun h=>by cases h⟩
theorem aif (b:dn) (w l:Int):∃v,mV b w l=some v:=by
 unfold mV
 simp only [vT,Option.bind_some]
 cases decide (0≤b.X∧b.X≤w) with
 | false=>exact ⟨_,rfl⟩
 | true=>
  cases decide (0≤b.Y∧b.Y≤l) with
  | false=>exact ⟨_,rfl⟩
  | true=>cases decide (1≤b.Width∧b.Width≤w64 (w - b.X))<;>exact ⟨_,rfl⟩
noncomputable def ZE (w l:Int) (b:dn):Bool:=(mV b w l).getD false
theorem ai4 (b:dn) (w l:Int):mV b w l=some (ZE w l b):=by
 obtain ⟨v,h⟩:=aif b w l
 unfold ZE
 rw [h];rfl
theorem anz (b:dn) (w l:Int):DC b w l=some (ZE w l b):=ai4 b w l
theorem aih (l:bU) (hb:l.fU.length≤1048576):∃v,Am l=some v∧uG l=some v:=by
 obtain ⟨n1,p1,q1⟩:=Wu l.Id
 obtain ⟨n2,p2,q2⟩:=Wu l.lM
 have hs:=Sj (f:=uA l) l.fU (ZE l.Width l.Length) hb (fun i hi=>by
  unfold uA
  rw [if_pos (by omega),dI hi,Option.bind_some,anz,Option.bind_some]) (by unfold uA;rw [if_neg (by omega)])
 have hi:dW l.fU (fun a0=>iT a0 l.Id l.lM l.Number l.jL.jr l.jL.iK l.jL.Bl l.Width l.Length l.fU)=some (!l.fU.all (ZE l.Width l.Length)):=by
  unfold dW gJ
  rcases UB (f:=dV (fun a0=>iT a0 l.Id l.lM l.Number l.jL.jr l.jL.iK l.jL.Bl l.Width l.Length l.fU) l.fU) l.fU (ZE l.Width l.Length) hb (fun i hi=>by
   unfold dV iT
   rw [if_pos (by omega),dI hi,Option.bind_some]
   simp only [ai4,Option.bind_some]) (by unfold dV;rw [if_neg (by omega)]) with ⟨a,b⟩ | ⟨a,k,b⟩
  ·rw [b,a];rfl
  ·rw [b,a]
   show some (decide ((k:Int)≥0))=_
   rw [decide_eq_true (by omega)]
   rfl
 unfold Am uG
 simp only [p1,q1,p2,q2,hs,hi,ai2,ai3,UA,vT,Option.bind_some]
 cases n1 with
 | false=>exact ⟨false,rfl,rfl⟩
 | true=>
 cases n2 with
 | false=>exact ⟨false,rfl,rfl⟩
 | true=>
 cases decide (0≤l.Number∧l.Number≤999) with
 | false=>exact ⟨false,rfl,rfl⟩
 | true=>
 cases Pj l.jL with
 | false=>exact ⟨false,rfl,rfl⟩
 | true=>
 cases decide (10≤l.Width∧l.Width≤20000) with
 | false=>exact ⟨false,rfl,rfl⟩
 | true=>
 cases decide (10≤l.Length∧l.Length≤20000) with
 | false=>exact ⟨false,rfl,rfl⟩
 | true=>
 cases decide ((l.fU.length:Int) >6) with
 | true=>exact ⟨false,rfl,rfl⟩
 | false=>cases l.fU.all (ZE l.Width l.Length)<;>exact ⟨_,rfl,rfl⟩
theorem acT (L:List bU) (hl:L.length≤1048576) (hb:∀x∈L,vS x):∃v,CJ L=some v∧pV L=some v:=by
 obtain ⟨o,o1,o2,o3⟩:=I7 (f:=wH L) (g:=lF L) hl (fun i hi=>by
  obtain ⟨_,_,_,_,_,_,hd,_⟩:=hb _ (List.getElem_mem hi)
  obtain ⟨v,v1,v2⟩:=aih L[i] hd
  have hc:(i:Int) < (L.length:Int):=by omega
  unfold wH lF
  rw [if_pos hc,if_pos hc,dI hi,dX (by omega)]
  simp only [Option.bind_some,v1,v2]
  cases v with
  | false=>exact ⟨false,rfl,rfl⟩
  | true=>
   by_cases c:(i:Int) >0
   ·simp only [if_pos c,if_true]
    rw [LV (by omega) (by omega),dI (show i - 1<L.length by omega)]
    simp only [Option.bind_some]
    cases (!Op.bytesLess (L[i - 1]'(by omega)).Id.toList (L[i]).Id.toList) with
    | true=>exact ⟨false,rfl,rfl⟩
    | false=>exact ⟨true,rfl,rfl⟩
   ·simp only [if_neg c,if_true,Option.bind_some]
    exact ⟨true,rfl,rfl⟩) (by unfold wH;rw [if_neg (by omega)]) (by unfold lF;rw [if_neg (by omega)])
 unfold CJ pV
 rw [o1,o2]
 cases o<;>exact ⟨_,rfl,rfl⟩
theorem afV (p:ak):∃v,iP p=some v∧(v=true→0≤p.nI):=by
 unfold iP
 simp only [vT,Option.bind_some]
 by_cases c:0≤p.nI∧p.nI≤23
 ·rw [decide_eq_true c]
  cases decide (0≤p.OJ∧p.OJ≤15) with
  | false=>exact ⟨false,rfl,fun h=>by cases h⟩
  | true=>
   cases decide (0≤p.X∧p.X≤20000) with
   | false=>exact ⟨false,rfl,fun h=>by cases h⟩
   | true=>
    cases decide (0≤p.Y∧p.Y≤20000) with
    | false=>exact ⟨false,rfl,fun h=>by cases h⟩
    | true=>exact ⟨_,rfl,fun _=>c.1⟩
 ·rw [decide_eq_false c]
  exact ⟨false,rfl,fun h=>by cases h⟩
noncomputable def plV (p:ak):Bool:=(iP p).getD false
theorem ak4 (p:ak):iP p=some (plV p):=by
 obtain ⟨v,h,_⟩:=afV p
 unfold plV
 rw [h];rfl
theorem apJ (p:ak):DD p=some (plV p):=ak4 p
theorem anA (p:ak) (h:plV p=true):0≤p.nI:=by
 obtain ⟨v,h1,h2⟩:=afV p
 refine h2 ?_
 rw [ak4] at h1
 rw [←Option.some.inj h1]
 exact h
noncomputable def plW (l:List ak) (i:Nat):Bool:=match l[i]? with
 | none=>true
 | some p=>plV p&&(i==0||match l[i - 1]? with | none=>true | some q=>decide (q.nI<p.nI))
theorem Yb (L:List ak) (hl:L.length≤1048576) {i:Nat} (hi:i<L.length):
 sO L (i:Int)=(if plW L i=true then some (.inl (((i+1:Nat):Int))) else some (.inr (.inr false)))∧iD L (i:Int)=(if plW L i=true then some (.inl (((i+1:Nat):Int))) else some (.inr (.inr false))):=by
 have hc:(i:Int) < (L.length:Int):=by omega
 unfold sO iD plW
 rw [if_pos hc,if_pos hc,dI hi,dX (by omega),List.getElem?_eq_getElem hi]
 simp only [Option.bind_some,apJ,ak4]
 by_cases hp:plV L[i]=true
 ·by_cases c:(i:Int) >0
  ·simp only [hp,if_pos c,if_true]
   rw [LV (by omega) (by omega),dI (show i - 1<L.length by omega)]
   simp only [List.getElem?_eq_getElem (show i - 1<L.length by omega),show (i==0)=false from beq_eq_false_iff_ne.2 (by omega),Option.bind_some,Bool.true_and,Bool.false_or]
   by_cases d:(L[i - 1]'(by omega)).nI< (L[i]).nI
   ·rw [decide_eq_true d,decide_eq_false (show ¬(L[i - 1]'(by omega)).nI≥(L[i]).nI by omega)]
    exact ⟨rfl,rfl⟩
   ·rw [decide_eq_false d,decide_eq_true (show (L[i - 1]'(by omega)).nI≥(L[i]).nI by omega)]
    exact ⟨rfl,rfl⟩
  ·obtain rfl:i=0:=by omega
   simp only [hp,if_neg c,if_true,Option.bind_some,Bool.true_and,beq_self_eq_true,Bool.true_or,Bool.false_eq_true,if_false,and_self]
 ·have hp:plV L[i]=false:=by simpa using hp
  simp only [hp,Bool.false_and,Bool.false_eq_true,if_false,if_true,Option.bind_some,and_self]
theorem ak5 (L:List ak) (hl:L.length≤1048576):∃v,CO L=some v∧kQ L=some v∧(v=true→∀i,i<L.length→plW L i=true):=by
 unfold CO kQ
 rcases ZC (f:=sO L) (g:=iD L) hl (plW L) (fun i hi=>(Yb L hl hi).1) (fun i hi=>(Yb L hl hi).2) (by unfold sO;rw [if_neg (by omega)]) (by unfold iD;rw [if_neg (by omega)]) with ⟨a,b,c⟩ | ⟨a,b⟩
 ·rw [a,b];exact ⟨_,rfl,rfl,fun _=>c⟩
 ·rw [a,b];exact ⟨false,rfl,rfl,fun h=>by cases h⟩
theorem ak6 (L:List ak) (h:∀i,i<L.length→plW L i=true):∀(j:Nat) (hj:j<L.length) (i:Nat) (hi:i≤j),0≤(L[i]'(by omega)).nI∧(L[i]'(by omega)).nI≤(L[j]).nI:=by
 intro j
 induction j with
 | zero=>
  intro hj i hi
  obtain rfl:i=0:=by omega
  have:=h 0 hj
  unfold plW at this
  rw [List.getElem?_eq_getElem hj] at this
  simp only [Bool.and_eq_true] at this
  exact ⟨anA _ this.1,Int.le_refl _⟩
 | succ j ih=>
  intro hj i hi
  have:=h (j+1) hj
  unfold plW at this
  rw [List.getElem?_eq_getElem hj,Nat.add_sub_cancel,List.getElem?_eq_getElem (show j<L.length by omega)] at this
  simp only [Bool.and_eq_true,Bool.or_eq_true,beq_iff_eq,Nat.add_one_ne_zero,false_or,decide_eq_true_eq] at this
  by_cases e:i=j+1
  ·subst e
   exact ⟨anA _ this.1,Int.le_refl _⟩
  ·obtain ⟨a,b⟩:=ih (by omega) i (by omega)
   exact ⟨a,by omega⟩
theorem ak7 (p:dJ) (L:List ak) (hl:L.length≤1048576) (hf:p.az.aG.length≤1048576):yF p L=some (L.all fun q=>decide (0≤q.nI∧q.nI≤(p.az.aG.length:Int) - 1)):=by
 unfold yF
 rw [Sj (f:=rf L p) L (fun q=>decide (0≤q.nI∧q.nI≤(p.az.aG.length:Int) - 1)) hl (fun i hi=>by
  unfold rf vC
  rw [if_pos (by omega),dI hi,Option.bind_some,UA,dP (n:=(p.az.aG.length:Int) - 1) (by omega) (by omega)]
  rfl) (by unfold rf;rw [if_neg (by omega)])]
 cases L.all _<;>rfl
theorem Yc (d:aB) (o:List Int) (n:Nat) (hn:n=d.aG.length) (hf:d.aG.length≤1048576) (ho:o.length≤1048576):∃v,wJ d o=some v∧iH o (n:Int)=some v:=by
 obtain ⟨r,r1,r2,r3⟩:=I7 (f:=pG d o) (g:=eP o (n:Int)) ho (fun i hi=>by
  have hs:slc o 0 (i:Int)=some (o.take i):=by
   unfold slc
   rw [if_pos ⟨by omega,by omega,by omega⟩]
   simp
  have hlen:(o.take i).length≤1048576:=by rw [List.length_take];omega
  have hc:(i:Int) < (o.length:Int):=by omega
  unfold pG eP vC
  rw [if_pos hc,if_pos hc,dI hi,dX (by omega),hs,hn,dP (n:=(d.aG.length:Int) - 1) (by omega) (by omega)]
  simp only [Option.bind_some,UA,vT,LY _ _ hlen,Iy _ _ hlen]
  cases decide (0≤o[i]∧o[i]≤(d.aG.length:Int) - 1) with
  | false=>exact ⟨false,rfl,rfl⟩
  | true=>
   cases decide (o[i]∈o.take i) with
   | true=>exact ⟨false,rfl,rfl⟩
   | false=>exact ⟨true,rfl,rfl⟩) (by unfold pG;rw [if_neg (by omega)]) (by unfold eP;rw [if_neg (by omega)])
 unfold wJ iH
 rw [r1,r2]
 cases r<;>exact ⟨_,rfl,rfl⟩
theorem afW (r:jv):∃v,wI r=some v∧rO r=some v:=by
 unfold wI rO
 simp only [UA,vT,Option.bind_some]
 cases decide (0≤r.kD∧r.kD≤500) with
 | false=>exact ⟨_,rfl,rfl⟩
 | true=>
  cases decide (0≤r.o8∧r.o8≤500) with
  | false=>exact ⟨_,rfl,rfl⟩
  | true=>cases decide (0≤r.yg∧r.yg≤90)<;>exact ⟨_,rfl,rfl⟩
theorem ak8 (j:fM) (hb:Dn j):∃v,CP j=some v∧lV j=some v:=by
 obtain ⟨hp,⟨hl1,hl2⟩,⟨hq,_⟩,_,_,_,_,_,⟨ho,_⟩,_⟩:=hb
 have hf:j.aS.az.aG.length≤1048576:=by
  obtain ⟨⟨_,_,_,⟨hf,_⟩⟩,_⟩:=hp
  exact hf
 obtain ⟨a,a1,a2,a3⟩:=afU j.aS hp
 obtain ⟨b,b1,b2⟩:=acT j.Leaves hl1 hl2
 obtain ⟨c,c1,c2,c3⟩:=ak5 j.bP hq
 obtain ⟨d,d1,d2⟩:=afW j.yh
 unfold CP lV
 rw [a1,a2,b1,b2,c1,c2,d1,d2,ak7 _ _ hq hf]
 simp only [Option.bind_some]
 cases a with
 | false=>exact ⟨false,rfl,rfl⟩
 | true=>
 cases b with
 | false=>exact ⟨false,rfl,rfl⟩
 | true=>
 cases c with
 | false=>exact ⟨false,rfl,rfl⟩
 | true=>
 have hv:=a3 rfl
 have up:=ak6 _ (c3 rfl)
 have last:(if (j.bP.length:Int) >0 then ((rd j.bP (w64 ((j.bP.length:Int) - 1))).bind fun x41=>some (decide (x41.nI≥(j.aS.dM.length:Int)))) else (some false))=
  some (!(j.bP.all fun q=>decide (0≤q.nI∧q.nI≤(j.aS.az.aG.length:Int) - 1))):=by
  by_cases e:(j.bP.length:Int) >0
  ·have hk:j.bP.length - 1<j.bP.length:=by omega
   rw [if_pos e,LV (by omega) (by omega),dI hk,Option.bind_some,hv]
   congr 1
   by_cases g:(j.bP[j.bP.length - 1]).nI≥(j.aS.az.aG.length:Int)
   ·rw [decide_eq_true g]
    have:(j.bP.all fun q=>decide (0≤q.nI∧q.nI≤(j.aS.az.aG.length:Int) - 1))=false:=by
     rw [List.all_eq_false]
     refine ⟨_,List.getElem_mem hk,?_⟩
     rw [decide_eq_true_eq]
     rintro ⟨_,h2⟩
     omega
    rw [this];rfl
   ·rw [decide_eq_false g]
    have:(j.bP.all fun q=>decide (0≤q.nI∧q.nI≤(j.aS.az.aG.length:Int) - 1))=true:=by
     rw [List.all_eq_true]
     intro q hq
     obtain ⟨i,hi,rfl⟩:=List.getElem_of_mem hq
     obtain ⟨u1,u2⟩:=up _ hk i (by omega)
     rw [decide_eq_true_eq]
     omega
    rw [this];rfl
  ·rw [if_neg e]
   have:j.bP=[]:=List.length_eq_zero_iff.1 (by omega)
   rw [this];rfl
 rw [last]
 obtain ⟨o,o1,o2⟩:=Yc j.aS.az j.Order j.aS.dM.length hv hf ho
 rw [o1,o2]
 unfold zT zU tC
 simp only [UA,vT,Option.bind_some]
 cases d with
 | false=>cases j.bP.all _<;>exact ⟨false,rfl,rfl⟩
 | true=>
 cases j.bP.all _ with
 | false=>exact ⟨false,rfl,rfl⟩
 | true=>
 cases decide (1≤j.jk∧j.jk≤1000) with
 | false=>exact ⟨false,rfl,rfl⟩
 | true=>
 cases decide (0≤j.Jb∧j.Jb≤200) with
 | false=>exact ⟨false,rfl,rfl⟩
 | true=>
 cases decide (0≤j.Ci∧j.Ci≤30) with
 | false=>exact ⟨false,rfl,rfl⟩
 | true=>cases decide (0≤j.Gap∧j.Gap≤200)<;>exact ⟨_,rfl,rfl⟩
def er {α:Type} (R:List α):List (α×α):=R.zip (R.drop 1++R.take 1)
theorem qo {α:Type} (R:List α):(er R).length=R.length:=by
 unfold er
 rw [List.length_zip,List.length_append,List.length_drop,List.length_take]
 omega
theorem ak9 {α:Type} {R:List α} {j:Nat} (h:j<R.length):∃h2:(j+1) % R.length<R.length,(er R)[j]'(by rw [qo];exact h)=(R[j],R[(j+1) % R.length]):=by
 have h2:(j+1) % R.length<R.length:=Nat.mod_lt _ (by omega)
 refine ⟨h2,?_⟩
 unfold er
 rw [List.getElem_zip]
 congr 1
 by_cases c:j+1<R.length
 ·rw [List.getElem_append_left (by rw [List.length_drop];omega),List.getElem_drop]
  congr 1
  rw [Nat.mod_eq_of_lt c];omega
 ·have e:j+1=R.length:=by omega
  rw [List.getElem_append_right (by rw [List.length_drop];omega),List.getElem_take]
  congr 1
  rw [List.length_drop,e,Nat.mod_self];omega
theorem Yd {α:Type} {R:List α} (hR:R.length≤1048576) {j:Nat} (h:j<R.length):rd R (j:Int)=some ((er R)[j]'(by rw [qo];exact h)).1∧md (w64 ((j:Int)+1)) (R.length:Int)=some (((j+1) % R.length:Nat):Int)∧rd R (((j+1) % R.length:Nat):Int)=some ((er R)[j]'(by rw [qo];exact h)).2:=by
 obtain ⟨h2,h3⟩:=ak9 h
 rw [h3]
 exact ⟨dI h,by rw [dX (by omega)];exact Si (by omega),dI h2⟩
theorem Ye {α:Type} {l:List α} {p:α→Bool} {i:Nat} (h:i<l.length):(l.take (i+1)).any p=((l.take i).any p||p l[i]):=by
 rw [List.take_succ_eq_append_getElem h,List.any_append,List.any_cons,List.any_nil,Bool.or_false]
def he (p q:Int×Int):Bool:=decide (q.1=p.1∧q.2=p.2∨q.1=p.2∧q.2=p.1)
theorem ZF (S:List Int) (hS:S.length≤1048576) (p:Int×Int):rq S p.1 p.2=some ((er S).any (he p)):=by
 obtain ⟨a,b⟩:=p
 unfold rq
 rcases rZ (f:=mO a b S) (er S) (he (a,b)) (fun _=>true) (by rw [qo];omega) (fun i hi=>by
  rw [qo] at hi
  obtain ⟨e1,e2,e3⟩:=Yd hS hi
  unfold mO
  rw [if_pos (by omega),e1,Option.bind_some,e2,Option.bind_some,e3,Option.bind_some]
  generalize (er S)[i]'(by rw [qo];exact hi)=q
  obtain ⟨c,d⟩:=q
  unfold he
  by_cases c1:c=a<;>by_cases c2:d=b<;>by_cases c3:c=b<;>by_cases c4:d=a<;>simp_all) (by unfold mO;rw [qo,if_neg (by omega)]) with ⟨h1,h2⟩ | ⟨i,hi,h1,_,h2⟩
 ·rw [h2,List.any_eq_false.2 fun x hx=>by simpa using h1 x hx]
  rfl
 ·rw [h2,List.any_eq_true.2 ⟨_,List.getElem_mem hi,h1⟩]
  rfl
def fc (R S:List Int):Bool:=(er R).any fun p=>(er S).any (he p)
def rg (d:aB) (k:Nat):List Int:=match d.aG[k]? with | some f=>f.Ring | none=>[]
def wQ (d:aB) (k n:Nat):List Int:=((List.range n).filter fun m=>decide (m≠k)&&fc (rg d k) (rg d m)).map fun m:Nat=>(m:Int)
theorem Yf {d:aB} {k:Nat} (h:k<d.aG.length):rg d k=d.aG[k].Ring:=by
 unfold rg
 rw [List.getElem?_eq_getElem h]
theorem Sl (d:aB) (k n:Nat):wQ d k (n+1)=if n≠k∧fc (rg d k) (rg d n)=true then wQ d k n++[(n:Int)] else wQ d k n:=by
 unfold wQ
 rw [List.range_succ,List.filter_append,List.map_append]
 by_cases c:n≠k∧fc (rg d k) (rg d n)=true
 ·rw [if_pos c,List.filter_cons_of_pos (by simp [c.1,c.2])];rfl
 ·rw [if_neg c,List.filter_cons_of_neg (by simpa using c),List.filter_nil,List.map_nil,List.append_nil]
theorem Oh (d:aB) (k n:Nat):(wQ d k n).length≤n:=by
 unfold wQ
 rw [List.length_map]
 exact Nat.le_trans (List.length_filter_le _ (List.range n)) (Nat.le_of_eq List.length_range)
def bR (d:aB):Prop:=d.aG.length≤1048576∧∀f∈d.aG,f.Ring.length≤1048576
theorem afX {d:aB} (h:bR d) (k:Nat):(rg d k).length≤1048576:=by
 unfold rg
 cases e:d.aG[k]? with
 | none=>simp
 | some f=>exact h.2 f (List.mem_of_getElem? e)
theorem acU {d:aB} (hb:bR d) {k:Nat} (hk:k<d.aG.length):yG d (k:Int)=some (wQ d k d.aG.length):=by
 unfold yG
 have hF:=hb.1
 rw [dI hk,Option.bind_some]
 have hR:(d.aG[k]).Ring.length≤1048576:=hb.2 _ (List.getElem_mem hk)
 have inner:∀f:Nat,(hf:f<d.aG.length)→aT (rC d (f:Int) d.aG[k]) (false,0)=some (fc (rg d k) (rg d f)):=by
  intro f hf
  have hS:(d.aG[f]).Ring.length≤1048576:=hb.2 _ (List.getElem_mem hf)
  rw [Yf hk,Yf hf]
  refine kC (fun j:Nat=>(((er (d.aG[k]).Ring).take j).any fun p=>(er (d.aG[f]).Ring).any (he p),(j:Int))) (d.aG[k]).Ring.length (fun j hj=>?_) ?_
  ·obtain ⟨e1,e2,e3⟩:=Yd hR hj
   unfold rC
   simp only
   rw [if_pos (by omega),Ye (by rw [qo];exact hj),e1,e2,dI hf,dX (by omega)]
   simp only [Option.bind_some]
   rw [e3]
   simp only [Option.bind_some,ZF _ hS]
   cases ((er (d.aG[k]).Ring).take j).any fun p=>(er (d.aG[f]).Ring).any (he p)<;>rfl
  ·unfold rC
   simp only
   rw [if_neg (by omega),List.take_of_length_le (by rw [qo];exact Nat.le_refl _)]
   rfl
 have e:aT (rD d (k:Int) d.aG[k]) (0,[])=some (wQ d k d.aG.length):=by
  refine kC (fun f:Nat=>((f:Int),wQ d k f)) d.aG.length (fun f hf=>?_) ?_
  ·have hl:=Oh d k f
   unfold rD
   simp only
   rw [if_pos (by omega),inner f hf,Option.bind_some,Sl]
   unfold ru
   rw [dX (by omega)]
   by_cases c:f≠k∧fc (rg d k) (rg d f)=true
   ·rw [if_pos c,if_pos ⟨by omega,c.2⟩,X5 (by simp only [List.length_singleton];omega)];rfl
   ·rw [if_neg c,if_neg (fun h=>c ⟨by omega,h.2⟩)]
  ·unfold rD
   simp only
   rw [if_neg (by omega)]
 rw [e];rfl
def mm (p:Int×Int):bW:=⟨min2 p.1 p.2,max2 p.1 p.2⟩
theorem ai5 (p q:Int×Int):((mm p).e0=(mm q).e0∧(mm p).e1=(mm q).e1)↔he p q=true:=by
 obtain ⟨a,b⟩:=p
 obtain ⟨c,d⟩:=q
 unfold mm he
 simp only [decide_eq_true_eq]
 rcases RS a b with h1 | h1<;>rcases RS c d with h2 | h2<;>rcases RQ a b with h3 | h3<;>rcases RQ c d with h4 | h4<;>rw [h1.2,h2.2,h3.2,h4.2]<;>omega
theorem Wx (R:List Int) (hR:R.length≤1048576):uH R=some ((er R).map mm):=by
 unfold uH
 have e:aT (nS R) (0,[])=some ((er R).map mm):=by
  refine kC (fun j:Nat=>((j:Int),((er R).take j).map mm)) R.length (fun j hj=>?_) ?_
  ·obtain ⟨e1,e2,e3⟩:=Yd hR hj
   unfold nS
   simp only
   rw [if_pos (by omega),e1,Option.bind_some,e2,Option.bind_some,e3,Option.bind_some,X5 (by rw [List.length_map,List.length_take,List.length_singleton];omega),Option.bind_some,dX (by omega),List.take_succ_eq_append_getElem (by rw [qo];exact hj),List.map_append]
   rfl
  ·unfold nS
   simp only
   rw [if_neg (by omega),List.take_of_length_le (by rw [qo];exact Nat.le_refl _)]
 rw [e];rfl
theorem apK (L:List (Int×Int)) (hL:L.length≤1048576) (p:Int×Int):fZ (L.map mm) (mm p)=some (L.any (he p)):=by
 unfold fZ jb
 rcases rZ (f:=fV (L.map mm) (mm p)) L (he p) (fun k=>(k:Int)) (by omega) (fun i hi=>by
  unfold fV
  rw [List.length_map,if_pos (by omega),dI (by rw [List.length_map];exact hi),Option.bind_some,List.getElem_map]
  by_cases c:he p L[i]=true
  ·rw [if_pos ((ai5 _ _).2 c),if_pos c]
  ·rw [if_neg (fun h=>c ((ai5 _ _).1 h)),if_neg c]) (by unfold fV;rw [List.length_map,if_neg (by omega)]) with ⟨h1,h2⟩ | ⟨i,hi,h1,_,h2⟩
 ·rw [h2,List.any_eq_false.2 fun x hx=>by simpa using h1 x hx]
  rfl
 ·rw [h2,List.any_eq_true.2 ⟨_,List.getElem_mem hi,h1⟩]
  show some (decide ((i:Int)≥0))=_
  rw [decide_eq_true (by omega)]
theorem anB {f:bW→Option Bool} {V:Int×Int→Bool} (L:List (Int×Int)) (hL:L.length≤1048576) (hf:∀p,f (mm p)=some (V p)):fA (L.map mm) f=some (L.any V):=by
 unfold fA iy
 rcases rZ (f:=eY f (L.map mm)) L V (fun k=>(k:Int)) (by omega) (fun i hi=>by
  unfold eY
  rw [List.length_map,if_pos (by omega),dI (by rw [List.length_map];exact hi),Option.bind_some,List.getElem_map,hf]
  rfl) (by unfold eY;rw [List.length_map,if_neg (by omega)]) with ⟨h1,h2⟩ | ⟨i,hi,h1,_,h2⟩
 ·rw [h2,List.any_eq_false.2 fun x hx=>by simpa using h1 x hx]
  rfl
 ·rw [h2,List.any_eq_true.2 ⟨_,List.getElem_mem hi,h1⟩]
  show some (decide ((i:Int)≥0))=_
  rw [decide_eq_true (by omega)]
def Dp (d:aB) (n:Nat):List (List bW):=(List.range n).map fun k=>(er (rg d k)).map mm
def wR {β:Type} (g:Nat→β) (z:β) (t n:Nat):List β:=(List.range t).map g++List.replicate (n - t) z
theorem Oi {β:Type} {g:Nat→β} {z:β} {t n:Nat} (h:t≤n):(wR g z t n).length=n:=by
 unfold wR
 rw [List.length_append,List.length_map,List.length_range,List.length_replicate];omega
theorem acV {β:Type} {g:Nat→β} {z:β} {t n:Nat} (h:t<n):rd (wR g z t n) (t:Int)=some z:=by
 have hl:=Oi (g:=g) (z:=z) (Nat.le_of_lt h)
 rw [dI (by omega)]
 unfold wR
 rw [List.getElem_append_right (by simp),List.getElem_replicate]
theorem UC {β:Type} {g:Nat→β} {z:β} {t n:Nat} (h:t<n):(wR g z t n).set t (g t)=wR g z (t+1) n:=by
 unfold wR
 rw [List.set_append_right _ _ (by simp),List.length_map,List.length_range,Nat.sub_self,List.range_succ,List.map_append,List.append_assoc]
 congr 1
 rw [show n - t=(n - (t+1))+1 by omega,List.replicate_succ,List.set_cons_zero]
 rfl
theorem UD {β:Type} {g:Nat→β} {z:β} {n:Nat}:wR g z n n=(List.range n).map g:=by
 unfold wR
 rw [Nat.sub_self,List.replicate_zero,List.append_nil]
theorem Sm {β:Type} {g:Nat→β} {z:β} {t n:Nat} (h:t<n):(wR g z t n).set t z=wR g z t n:=by
 have h1:=acV (g:=g) (z:=z) h
 rw [RP] at h1
 obtain ⟨h2,h3⟩:=List.getElem?_eq_some_iff.1 h1
 apply List.ext_getElem?
 intro j
 by_cases c:j=t
 ·subst c;rw [List.getElem?_set_self h2,h1]
 ·rw [List.getElem?_set_ne (by omega)]
theorem afY {α:Type} {l:List α} {t:Nat} {x:α} (h:t<l.length):rd (l.set t x) (t:Int)=some x:=by
 rw [RP,List.getElem?_set_self h]
theorem acW {d:aB} (hb:bR d):rP d=some ((List.range d.aG.length).map fun k=>wQ d k d.aG.length):=by
 have hF:=hb.1
 unfold rP
 have e:aT (mX d) (0,[])=some (Dp d d.aG.length):=by
  refine kC (fun t:Nat=>((t:Int),Dp d t)) d.aG.length (fun t ht=>?_) ?_
  ·unfold mX
   simp only
   rw [if_pos (by omega),dI ht,Option.bind_some,Wx _ (hb.2 _ (List.getElem_mem ht)),Option.bind_some,X5 (by unfold Dp;rw [List.length_map,List.length_range,List.length_singleton];omega),Option.bind_some,dX (by omega)]
   unfold Dp
   rw [List.range_succ,List.map_append,List.map_singleton,Yf ht]
  ·unfold mX
   simp only
   rw [if_neg (by omega)]
 rw [e]
 have hl:(Dp d d.aG.length).length=d.aG.length:=by unfold Dp;rw [List.length_map,List.length_range]
 simp only [Option.bind_some,hl]
 unfold mkl
 rw [if_pos ⟨by omega,by omega⟩,Option.bind_some]
 have ed:∀k:Nat,k<d.aG.length→rd (Dp d d.aG.length) (k:Int)=some ((er (rg d k)).map mm):=by
  intro k hk
  rw [dI (by omega)]
  unfold Dp
  rw [List.getElem_map,List.getElem_range]
 have inner:∀(t:Nat),t<d.aG.length→∀(out:List (List Int)),out.length=d.aG.length→out.set t []=out→aT (lH (Dp d d.aG.length) (t:Int)) (0,out)=some (out.set t (wQ d t d.aG.length)):=by
  intro t ht out ho hz
  have h0:(((0:Nat):Int),out.set t (wQ d t 0))=((0:Int),out):=by
   rw [show wQ d t 0=[] from rfl,hz];rfl
  rw [←h0]
  refine kC (fun m:Nat=>((m:Int),out.set t (wQ d t m))) d.aG.length (fun m hm=>?_) ?_
  ·have hn:=Oh d t m
   unfold lH
   simp only
   rw [hl,if_pos (by omega),Sl]
   unfold lG
   rw [dX (by omega)]
   by_cases c1:m=t
   ·subst c1
    simp only [ne_eq,not_true_eq_false,if_false,false_and,Option.bind_some,Bool.false_eq_true]
   ·rw [if_pos (show (t:Int)≠(m:Int) by omega),ed t ht]
    have hc:∀p:Int×Int,jg (mm p) (Dp d d.aG.length) (m:Int)=some ((er (rg d m)).any (he p)):=by
     intro p
     unfold jg
     rw [ed m hm,Option.bind_some,apK _ (by rw [qo];exact afX hb m),Option.bind_some]
    simp only [Option.bind_some]
    rw [anB (V:=fun p=>(er (rg d m)).any (he p)) (er (rg d t)) (by rw [qo];exact afX hb t) hc]
    simp only [Option.bind_some]
    rw [show ((er (rg d t)).any fun p=>(er (rg d m)).any (he p))=fc (rg d t) (rg d m) from rfl]
    rw [afY (by omega)]
    cases hfc:fc (rg d t) (rg d m) with
    | false=>simp
    | true=>
     simp only [if_true,Option.bind_some,and_true]
     rw [if_pos c1,X5 (by simp only [List.length_singleton];omega),Option.bind_some,show ((t:Int)).toNat=t from rfl,List.set_set]
  ·unfold lH
   simp only
   rw [hl,if_neg (by omega)]
 have h0:(((0:Nat):Int),wR (fun k=>wQ d k d.aG.length) [] 0 d.aG.length)=((0:Int),List.replicate (d.aG.length:Int).toNat ([]:List Int)):=by
  unfold wR
  simp
 rw [←h0]
 have e2:aT (mW (Dp d d.aG.length)) (((0:Nat):Int),wR (fun k=>wQ d k d.aG.length) [] 0 d.aG.length)=some (wR (fun k=>wQ d k d.aG.length) [] d.aG.length d.aG.length):=by
  refine kC (fun t:Nat=>((t:Int),wR (fun k=>wQ d k d.aG.length) [] t d.aG.length)) d.aG.length (fun t ht=>?_) ?_
  ·unfold mW
   simp only
   rw [hl,if_pos (by omega),inner t ht _ (Oi (Nat.le_of_lt ht)) (Sm ht),Option.bind_some,dX (by omega)]
   rw [←UC ht]
  ·unfold mW
   simp only
   rw [hl,if_neg (by omega)]
 rw [e2,UD];rfl
def eg (d:aB) (a b:ae):Bool:=decide (a.X=b.X∧(a.X=0∨a.X=d.Width)∨a.Y=b.Y∧(a.Y=0∨a.Y=d.Height))
theorem aby (d:aB) (a b:ae):(if a.X=b.X then (if a.X=0 then some true else if a.X=d.Width then some true else if a.Y=b.Y then (if a.Y=0 then some true else some (a.Y==d.Height)) else some false)
 else if a.Y=b.Y then (if a.Y=0 then some true else some (a.Y==d.Height)) else some false)=some (eg d a b):=by
 unfold eg
 by_cases c1:a.X=b.X<;>by_cases c2:a.X=0<;>by_cases c3:a.X=d.Width<;>by_cases c4:a.Y=b.Y<;>by_cases c5:a.Y=0<;>by_cases c6:a.Y=d.Height<;>simp_all
noncomputable def Dq (d:aB) (k:Nat):List ae:=match gW d.bG (rg d k) with | some r=>r.1 | none=>[]
noncomputable def bdP (d:aB) (k:Nat):Bool:=(er (Dq d k)).any fun p=>eg d p.1 p.2
def bD (d:aB):Prop:=bR d∧d.bG.length≤1048576
theorem Wy {d:aB} (hb:bD d) (k:Nat):∃r,gW d.bG (rg d k)=some r∧r.1=Dq d k∧(Dq d k).length≤1048576:=by
 obtain ⟨r,r1,r2⟩:=abw d.bG (rg d k) hb.2 (afX hb.1 k)
 have:r.1=Dq d k:=by unfold Dq;rw [r1]
 exact ⟨r,r1,this,by rw [←this];exact r2⟩
theorem aii {d:aB} (hb:bD d) {k:Nat} (hk:k<d.aG.length):uC d (k:Int)=some (bdP d k):=by
 obtain ⟨r,r1,r2,r3⟩:=Wy hb k
 have hp:rE d (k:Int)=some (Dq d k):=by
  unfold rE
  rw [dI hk,Option.bind_some,ai1,←Yf hk,r1,Option.bind_some,r2]
 unfold uC
 rw [hp,Option.bind_some]
 rcases rZ (f:=nO d (Dq d k)) (er (Dq d k)) (fun p=>eg d p.1 p.2) (fun _=>true) (by rw [qo];omega) (fun i hi=>by
  rw [qo] at hi
  obtain ⟨e1,e2,e3⟩:=Yd r3 hi
  unfold nO BI
  rw [if_pos (by omega),e1,Option.bind_some,e2,Option.bind_some,e3,Option.bind_some,aby]
  rfl) (by unfold nO;rw [qo,if_neg (by omega)]) with ⟨h1,h2⟩ | ⟨i,hi,h1,_,h2⟩
 ·unfold bdP
  rw [h2,List.any_eq_false.2 fun x hx=>by simpa using h1 x hx]
  rfl
 ·unfold bdP
  rw [h2,List.any_eq_true.2 ⟨_,List.getElem_mem hi,h1⟩]
  rfl
noncomputable def Dt (d:aB):eG:=⟨(List.range d.aG.length).map fun k=>wQ d k d.aG.length,(List.range d.aG.length).map fun k=>bdP d k⟩
theorem aij {d:aB} (hb:bD d):CS d=some (Dt d):=by
 have hF:=hb.1.1
 unfold CS
 have e:aT (wK d) (0,([]:List (List Int)),([]:List Bool))=some ((List.range d.aG.length).map fun k=>wQ d k d.aG.length,(List.range d.aG.length).map fun k=>bdP d k):=by
  refine kC (fun k:Nat=>((k:Int),(List.range k).map (fun k=>wQ d k d.aG.length),(List.range k).map fun k=>bdP d k)) d.aG.length (fun k hk=>?_) ?_
  ·unfold wK
   simp only
   rw [if_pos (by omega),acU hb.1 hk,Option.bind_some,X5 (by rw [List.length_map,List.length_range,List.length_singleton];omega),Option.bind_some,aii hb hk,Option.bind_some,X5 (by rw [List.length_map,List.length_range,List.length_singleton];omega),Option.bind_some,dX (by omega)]
   rw [List.range_succ,List.map_append,List.map_append]
   rfl
  ·unfold wK
   simp only
   rw [if_neg (by omega)]
 rw [e]
 rfl
theorem ZG {d:aB} (hb:bD d):yL d=some (Dt d):=by
 have hF:=hb.1.1
 unfold yL
 rw [acW hb.1,Option.bind_some]
 unfold mkl
 rw [if_pos ⟨by omega,by omega⟩,Option.bind_some]
 have inner:∀(t:Nat),t<d.aG.length→∀(out:List Bool),out.length=d.aG.length→out.set t false=out→aT (rQ d (t:Int) (Dq d t)) (0,out)=some (out.set t (bdP d t)):=by
  intro t ht out ho hz
  obtain ⟨_,_,_,r3⟩:=Wy hb t
  have h0:(((0:Nat):Int),out.set t (((er (Dq d t)).take 0).any fun p=>eg d p.1 p.2))=((0:Int),out):=by
   rw [List.take_zero,List.any_nil,hz];rfl
  rw [←h0]
  refine kC (fun i:Nat=>((i:Int),out.set t (((er (Dq d t)).take i).any fun p=>eg d p.1 p.2))) (Dq d t).length (fun i hi=>?_) ?_
  ·obtain ⟨e1,e2,e3⟩:=Yd r3 hi
   unfold rQ qc
   simp only
   rw [if_pos (by omega),e1,Option.bind_some,e2,Option.bind_some,e3,Option.bind_some,aby,Option.bind_some,dX (by omega),Ye (by rw [qo];exact hi)]
   cases eg d ((er (Dq d t))[i]'(by rw [qo];exact hi)).1 ((er (Dq d t))[i]'(by rw [qo];exact hi)).2 with
   | false=>simp
   | true=>
    rw [if_pos rfl,afY (by omega),Option.bind_some,show ((t:Int)).toNat=t from rfl,List.set_set,Bool.or_true]
  ·unfold rQ
   simp only
   rw [if_neg (by omega),List.take_of_length_le (by rw [qo];exact Nat.le_refl _)]
   rfl
 have h0:(((0:Nat):Int),wR (fun k=>bdP d k) false 0 d.aG.length)=((0:Int),List.replicate (d.aG.length:Int).toNat false):=by
  unfold wR
  simp
 rw [←h0]
 have e2:aT (rU d) (((0:Nat):Int),wR (fun k=>bdP d k) false 0 d.aG.length)=some (wR (fun k=>bdP d k) false d.aG.length d.aG.length):=by
  refine kC (fun t:Nat=>((t:Int),wR (fun k=>bdP d k) false t d.aG.length)) d.aG.length (fun t ht=>?_) ?_
  ·obtain ⟨r,r1,r2,r3⟩:=Wy hb t
   have hp:pY d (t:Int)=some (Dq d t):=by
    unfold pY
    rw [dI ht,Option.bind_some,←Yf ht,r1,Option.bind_some,r2]
   unfold rU
   simp only
   rw [if_pos (by omega),hp,Option.bind_some,inner t ht _ (Oi (Nat.le_of_lt ht)) (Sm ht),Option.bind_some,dX (by omega)]
   rw [←UC ht]
  ·unfold rU
   simp only
   rw [if_neg (by omega)]
 rw [e2,UD]
 rfl
structure Mp (M:eG):Prop where
 len:M.near.length≤1048576
 rows:∀r∈M.near,r.length≤1048576
 bd:M.AU.length=M.near.length
theorem aik {d:aB} (hb:bD d):Mp (Dt d) where
 len:=by unfold Dt;rw [List.length_map,List.length_range];exact hb.1.1
 rows:=by
  intro r hr
  obtain ⟨k,_,rfl⟩:=List.mem_map.1 hr
  exact Nat.le_trans (Oh _ _ _) hb.1.1
 bd:=by unfold Dt;rw [List.length_map,List.length_map]
section
variable {M:eG} (hM:Mp M) {F:List Int} (hF:F.length≤1048576)
def nr (M:eG) (k:Nat):List Int:=M.near.getD k []
def bo (M:eG) (k:Nat):Bool:=M.AU.getD k false
def hdP (M:eG) (F:List Int) (k:Nat):Bool:=decide (F.length=0)||(nr M k).any fun x=>decide (x∈F)
def trP (M:eG) (F:List Int) (k:Nat):Bool:=!bo M k&&(nr M k).all fun x=>decide (x∈F)
def kdP (M:eG) (F:List Int) (k:Nat):Int:=if hdP M F k=true then (if trP M F k=true then 2 else 0) else 1
include hM hF
omit hF in
theorem abz {k:Nat} (hk:k<M.near.length):rd M.near (k:Int)=some (nr M k)∧(nr M k).length≤1048576∧rd M.AU (k:Int)=some (bo M k):=by
 have e:nr M k=M.near[k]:=by unfold nr;rw [List.getD_eq_getElem?_getD,List.getElem?_eq_getElem hk];rfl
 have hb:k<M.AU.length:=by rw [hM.bd];exact hk
 refine ⟨by rw [e];exact dI hk,by rw [e];exact hM.rows _ (List.getElem_mem hk),?_⟩
 rw [dI hb]
 unfold bo
 rw [List.getD_eq_getElem?_getD,List.getElem?_eq_getElem hb];rfl
theorem acX {k:Nat} (hk:k<M.near.length):yH M F (k:Int)=some (hdP M F k):=by
 obtain ⟨n1,n2,n3⟩:=abz hM hk
 unfold yH hdP
 by_cases c:F.length=0
 ·rw [if_pos (by omega),decide_eq_true c];rfl
 ·rw [if_neg (by omega),decide_eq_false c,Bool.false_or]
  rcases rZ (f:=rF (k:Int) M F) (nr M k) (fun x=>decide (x∈F)) (fun _=>true) (by omega) (fun i hi=>by
   unfold rF
   rw [n1,Option.bind_some,if_pos (by omega),Option.bind_some,dI hi,Option.bind_some,LY _ _ hF,Option.bind_some]) (by unfold rF;rw [n1,Option.bind_some,if_neg (by omega)]) with ⟨h1,h2⟩ | ⟨i,hi,h1,_,h2⟩
  ·rw [h2,List.any_eq_false.2 fun x hx=>by simpa using h1 x hx]
   rfl
  ·rw [h2,List.any_eq_true.2 ⟨_,List.getElem_mem hi,h1⟩]
   rfl
omit hM hF in
theorem ai6 {f:Int→Option Bool} {V:Int→Bool} (L:List Int) (hL:L.length≤1048576) (hf:∀p,f p=some (V p)):dh L f=some (L.any V):=by
 unfold dh fH
 rcases rZ (f:=eU f L) L V (fun k=>(k:Int)) (by omega) (fun i hi=>by
  unfold eU
  rw [if_pos (by omega),dI hi,Option.bind_some,hf]
  rfl) (by unfold eU;rw [if_neg (by omega)]) with ⟨h1,h2⟩ | ⟨i,hi,h1,_,h2⟩
 ·rw [h2,List.any_eq_false.2 fun x hx=>by simpa using h1 x hx]
  rfl
 ·rw [h2,List.any_eq_true.2 ⟨_,List.getElem_mem hi,h1⟩]
  show some (decide ((i:Int)≥0))=_
  rw [decide_eq_true (by omega)]
theorem acY {k:Nat} (hk:k<M.near.length):rV M F (k:Int)=some (hdP M F k):=by
 obtain ⟨n1,n2,n3⟩:=abz hM hk
 unfold rV hdP
 by_cases c:F.length=0
 ·rw [if_pos (by omega),decide_eq_true c];rfl
 ·rw [if_neg (by omega),decide_eq_false c,Bool.false_or,n1,Option.bind_some,ai6 (V:=fun x=>decide (x∈F)) _ n2 (fun x=>by
   unfold jH
   rw [Iy _ _ hF];rfl)]
  rfl
theorem acZ {k:Nat} (hk:k<M.near.length):rG M F (k:Int)=some (trP M F k):=by
 obtain ⟨n1,n2,n3⟩:=abz hM hk
 unfold rG trP
 rw [n3,Option.bind_some]
 cases bo M k with
 | true=>rfl
 | false=>
  rw [if_neg (by decide),Bool.not_false,Bool.true_and]
  rcases rZ (f:=mP (k:Int) M F) (nr M k) (fun x=>!decide (x∈F)) (fun _=>false) (by omega) (fun i hi=>by
   unfold mP
   rw [n1,Option.bind_some,if_pos (by omega),Option.bind_some,dI hi,Option.bind_some,LY _ _ hF,Option.bind_some]
   cases decide ((nr M k)[i]∈F)<;>rfl) (by unfold mP;rw [n1,Option.bind_some,if_neg (by omega)]) with ⟨h1,h2⟩ | ⟨i,hi,h1,_,h2⟩
  ·rw [h2,List.all_eq_true.2 fun x hx=>by simpa using h1 x hx]
   rfl
  ·rw [h2,List.all_eq_false.2 ⟨_,List.getElem_mem hi,by simpa using h1⟩]
   rfl
theorem ac0 {k:Nat} (hk:k<M.near.length):mY M F (k:Int)=some (trP M F k):=by
 obtain ⟨n1,n2,n3⟩:=abz hM hk
 unfold mY trP
 rw [n3,Option.bind_some]
 cases bo M k with
 | true=>rfl
 | false=>
  rw [if_neg (by decide),Bool.not_false,Bool.true_and,n1,Option.bind_some,ai6 (V:=fun x=>!decide (x∈F)) _ n2 (fun x=>by
   unfold iI
   rw [Iy _ _ hF];rfl)]
  simp only [Option.bind_some]
  congr 1
  rw [List.all_eq_not_any_not]
theorem ac1 {k:Nat} (hk:k<M.near.length):yI M F (k:Int)=some (kdP M F k):=by
 unfold yI kdP
 rw [acX hM hF hk,Option.bind_some]
 cases hdP M F k with
 | false=>rfl
 | true=>rw [if_pos rfl,if_pos rfl,acZ hM hF hk,Option.bind_some];cases trP M F k<;>rfl
theorem ZH {k:Nat} (hk:k<M.near.length):qf M F (k:Int)=some (kdP M F k):=by
 unfold qf kdP
 rw [acY hM hF hk,Option.bind_some]
 cases hdP M F k with
 | false=>rfl
 | true=>rw [if_pos rfl,if_pos rfl,ac0 hM hF hk,Option.bind_some];cases trP M F k<;>rfl
end
theorem anC {d:aB} (hb:lU d):bD d:=by
 obtain ⟨_,_,⟨hp,_⟩,⟨hf,hF⟩⟩:=hb
 exact ⟨⟨hf,fun f h=>(hF f h).2.1⟩,hp⟩
theorem afZ:∀(n:Nat) (k:Int) (out:ByteArray),k.toNat≤n→out.size+k.toNat≤4611686018427387904→∃r,aT lZ (k,out)=some r∧r.size≤out.size+k.toNat:=by
 intro n
 induction n with
 | zero=>
  intro k out h1 h2
  refine ⟨out,dG ?_,by omega⟩
  unfold lZ
  simp only
  rw [if_neg (by omega)]
 | succ n ih=>
  intro k out h1 h2
  by_cases c:k>0
  ·have e1:w64 (k.tdiv 10)=k.tdiv 10:=by
    rw [Int.tdiv_eq_ediv_of_nonneg (by omega)]
    exact dP (by omega) (by omega)
   have e2:k.tdiv 10=k / 10:=Int.tdiv_eq_ediv_of_nonneg (by omega)
   have hs:∀x:Int,(strOf [x]).size=1:=fun x=>rfl
   obtain ⟨r,hr,hr2⟩:=ih (k / 10) (strOf [IntKind.wrap .u8 (w64 (48+k.tmod 10))]++out) (by omega) (by rw [ByteArray.size_append,hs];omega)
   refine ⟨r,?_,?_⟩
   ·rw [iO (s':=(k / 10,strOf [IntKind.wrap .u8 (w64 (48+k.tmod 10))]++out)) ?_]
    ·exact hr
    ·unfold lZ md dv
     simp only
     rw [if_pos c,if_neg (by decide),Option.bind_some,RN (by rw [hs];omega),Option.bind_some,if_neg (by decide),Option.bind_some]
     have e3:IntKind.wrap .i64 (k.tdiv 10)=k / 10:=by rw [←e2];exact e1
     rw [e3]
   ·rw [ByteArray.size_append,hs] at hr2
    omega
  ·refine ⟨out,dG ?_,by omega⟩
   unfold lZ
   simp only
   rw [if_neg c]
theorem I8 (k:Int) (h:k≤2305843009213693952):∃r,fQ k=some r:=by
 unfold fQ
 split
 ·exact ⟨_,rfl⟩
 ·obtain ⟨r,hr,hr2⟩:=afZ k.toNat k ⟨#[]⟩ (Nat.le_refl _) (by show 0+_≤_;omega)
  have h0:(⟨#[]⟩:ByteArray).size=0:=rfl
  have h1:(⟨#[109]⟩:ByteArray).size=1:=rfl
  rw [hr,Option.bind_some,RN (by rw [h1];omega),Option.bind_some]
  exact ⟨_,rfl⟩
theorem Sr {α:Type} {f:Int×Int→Option ((Int×Int) ⊕ Int)} (l:List α) (c:Nat) (K:Int) (hl:l.length<4611686018427387904)
 (h1:∀(i:Nat) (hi:i<l.length) (k:Int),0≤k→k+c≤K→∃k',k≤k'∧k'≤k+c∧f (k,(i:Int))=some (.inl (k',w64 ((i:Int)+1))))
 (h2:∀k,f (k,(l.length:Int))=some (.inr k)) {k:Int} (h0:0≤k) (hk:k+((c*l.length:Nat):Int)≤K):∃r,aT f (k,0)=some r∧k≤r∧r≤k+((c*l.length:Nat):Int):=by
 have key:∀(n i:Nat) (k:Int),i+n=l.length→0≤k→k+((c*n:Nat):Int)≤K→∃r,aT f (k,(i:Int))=some r∧k≤r∧r≤k+((c*n:Nat):Int):=by
  intro n
  induction n with
  | zero=>
   intro i k hi h0 hk
   obtain rfl:i=l.length:=by omega
   exact ⟨k,dG (h2 k),Int.le_refl _,by omega⟩
  | succ n ih=>
   intro i k hi h0 hk
   have e:((c* (n+1):Nat):Int)=((c*n:Nat):Int)+c:=by rw [Nat.mul_succ];omega
   have hp:(0:Int)≤((c*n:Nat):Int):=by omega
   obtain ⟨k',q1,q2,q3⟩:=h1 i (by omega) k h0 (by omega)
   obtain ⟨r,r1,r2,r3⟩:=ih (i+1) k' (by omega) (by omega) (by omega)
   rw [dX (by omega)] at q3
   exact ⟨r,by rw [iO q3];exact r1,by omega,by omega⟩
 simpa using key l.length 0 k (by omega) h0 hk
theorem anD {d:aB} (h:lU d):d.bG.length≤1048576∧d.aG.length≤1048576∧∀x∈d.aG,x.Ring.length≤1048576:=by
 obtain ⟨_,_,⟨p,_⟩,⟨f,g⟩⟩:=h
 exact ⟨p,f,fun x hx=>(g x hx).2.1⟩
theorem ac2 (l:List ae) (h:l.length≤1048576) {k:Int} (h0:0≤k) (hk:k≤1152921504606846976):∃r,ng l k=some r∧k≤r∧r≤k+2097152:=by
 unfold ng
 obtain ⟨r,r1,r2,r3⟩:=Sr (f:=jS l) l 2 1152921504608944128 (by omega) (fun i hi k h0 hk=>⟨k+2,by omega,by omega,by
  unfold jS
  simp only
  rw [if_pos (by omega),dI hi,Option.bind_some,Option.bind_some,dP (n:=k+1) (by omega) (by omega),dP (n:=k+1+1) (by omega) (by omega)]
  congr 3
  omega⟩) (fun k=>by
  unfold jS
  simp only
  rw [if_neg (by omega)]) h0 (by omega)
 exact ⟨r,by rw [r1];rfl,r2,by omega⟩
theorem WA (l:List Int) (h:l.length≤1048576) {k:Int} (h0:0≤k) (hk:k≤2305843009213693952):∃r,jh l k=some r∧k≤r∧r≤k+1048576:=by
 unfold jh
 obtain ⟨r,r1,r2,r3⟩:=Sr (f:=jT l) l 1 2305843009214742528 (by omega) (fun i hi k h0 hk=>⟨k+1,by omega,by omega,by
  unfold jT
  simp only
  rw [if_pos (by omega),dI hi,Option.bind_some,dP (n:=k+1) (by omega) (by omega)]⟩) (fun k=>by
  unfold jT
  simp only
  rw [if_neg (by omega)]) h0 (by omega)
 exact ⟨r,by rw [r1];rfl,r2,by omega⟩
theorem af0 (l:List bT) (h:l.length≤1048576) (hr:∀x∈l,x.Ring.length≤1048576) {k:Int} (h0:0≤k) (hk:k≤1152921504608944128):∃r,uM l k=some r∧k≤r∧r≤k+1099512676352:=by
 unfold uM
 obtain ⟨r,r1,r2,r3⟩:=Sr (f:=nX l) l 1048577 1152922604121620480 (by omega) (fun i hi k h0 hk=>by
  obtain ⟨t,ht⟩:=I8 k (by omega)
  obtain ⟨r,r1,r2,r3⟩:=WA l[i].Ring (hr _ (List.getElem_mem hi)) (k:=k+1) (by omega) (by omega)
  refine ⟨r,by omega,by omega,?_⟩
  unfold nX
  simp only
  rw [if_pos (by omega),ht,Option.bind_some,dI hi,Option.bind_some,Option.bind_some,dP (n:=k+1) (by omega) (by omega),r1,Option.bind_some]) (fun k=>by
  unfold nX
  simp only
  rw [if_neg (by omega)]) h0 (by omega)
 exact ⟨r,by rw [r1];rfl,r2,by omega⟩
theorem ZI (d:aB) (hb:lU d) {k:Int} (h0:0≤k) (hk:k≤1048576):∃r,qh d k=some r∧k≤r∧r≤k+1099514773504:=by
 obtain ⟨b1,b2⟩:=anD hb
 unfold qh
 obtain ⟨r,r1,r2,r3⟩:=ac2 d.bG b1 h0 (by omega)
 obtain ⟨q,q1,q2,q3⟩:=af0 d.aG b2.1 b2.2 (k:=r) (by omega) (by omega)
 exact ⟨q,by rw [r1,Option.bind_some,q1];rfl,by omega,by omega⟩
theorem ail (l:List aI) (h:l.length≤1048576) {k:Int} (h0:0≤k) (hk:k≤1152921504606846976):∃r,lI l k=some r∧k≤r∧r≤k+3145728:=by
 unfold lI
 obtain ⟨r,r1,r2,r3⟩:=Sr (f:=jA l) l 3 1152921504609992704 (by omega) (fun i hi k h0 hk=>by
  obtain ⟨t,ht⟩:=I8 k (by omega)
  refine ⟨k+3,by omega,by omega,?_⟩
  unfold jA
  simp only
  rw [if_pos (by omega),ht,dI hi]
  simp only [Option.bind_some]
  rw [dP (n:=k+1) (by omega) (by omega),dP (n:=k+1+1) (by omega) (by omega),dP (n:=k+1+1+1) (by omega) (by omega),show k+1+1+1=k+3 by omega]) (fun k=>by
  unfold jA
  simp only
  rw [if_neg (by omega)]) h0 (by omega)
 exact ⟨r,by rw [r1];rfl,r2,by omega⟩
theorem af1 (l:List dn) (h:l.length≤1048576) {k:Int} (h0:0≤k) (hk:k≤1152921504606846976):∃r,qi l k=some r∧k≤r∧r≤k+4194304:=by
 unfold qi
 obtain ⟨r,r1,r2,r3⟩:=Sr (f:=lJ l) l 4 1152921504611041280 (by omega) (fun i hi k h0 hk=>by
  refine ⟨k+4,by omega,by omega,?_⟩
  unfold lJ
  simp only
  rw [if_pos (by omega),dI hi]
  simp only [Option.bind_some]
  rw [dP (n:=k+1) (by omega) (by omega),dP (n:=k+1+1) (by omega) (by omega),dP (n:=k+1+1+1) (by omega) (by omega),dP (n:=k+1+1+1+1) (by omega) (by omega),show k+1+1+1+1=k+4 by omega]) (fun k=>by
  unfold lJ
  simp only
  rw [if_neg (by omega)]) h0 (by omega)
 exact ⟨r,by rw [r1];rfl,r2,by omega⟩
theorem ac3 (l:List bU) (h:l.length≤1048576) (hr:∀x∈l,x.fU.length≤1048576) {k:Int} (h0:0≤k) (hk:k≤1125899906842624):∃r,uN l k=some r∧k≤r∧r≤k+4398054899712:=by
 unfold uN
 obtain ⟨r,r1,r2,r3⟩:=Sr (f:=nY l) l 4194312 1130297961742336 (by omega) (fun i hi k h0 hk=>by
  have e1:w64 (k+1)=k+1:=dP (by omega) (by omega)
  have e2:w64 (k+1+1)=k+2:=by rw [dP (by omega) (by omega)];omega
  have e3:w64 (k+2+1)=k+3:=by rw [dP (by omega) (by omega)];omega
  have e4:w64 (k+3+1)=k+4:=by rw [dP (by omega) (by omega)];omega
  have e5:w64 (k+4+1)=k+5:=by rw [dP (by omega) (by omega)];omega
  have e6:w64 (k+5+1)=k+6:=by rw [dP (by omega) (by omega)];omega
  have e7:w64 (k+6+1)=k+7:=by rw [dP (by omega) (by omega)];omega
  have e8:w64 (k+7+1)=k+8:=by rw [dP (by omega) (by omega)];omega
  obtain ⟨t1,ht1⟩:=I8 k (by omega)
  obtain ⟨t2,ht2⟩:=I8 (k+1) (by omega)
  obtain ⟨t3,ht3⟩:=I8 (k+3) (by omega)
  obtain ⟨r,r1,r2,r3⟩:=af1 l[i].fU (hr _ (List.getElem_mem hi)) (k:=k+8) (by omega) (by omega)
  refine ⟨r,by omega,by omega,?_⟩
  unfold nY
  simp only
  rw [if_pos (by omega),ht1,dI hi]
  simp only [Option.bind_some,e1,e2,e3,e4,e5,e6,e7,e8,ht2,ht3,r1]) (fun k=>by
  unfold nY
  simp only
  rw [if_neg (by omega)]) h0 (by omega)
 exact ⟨r,by rw [r1];rfl,r2,by omega⟩
theorem ala (l:List ak) (h:l.length≤1048576) {k:Int} (h0:0≤k) (hk:k≤1152921504606846976):∃r,jB l k=some r∧k≤r∧r≤k+5242880:=by
 unfold jB
 obtain ⟨r,r1,r2,r3⟩:=Sr (f:=iL l) l 5 1152921504612089856 (by omega) (fun i hi k h0 hk=>by
  refine ⟨k+5,by omega,by omega,?_⟩
  unfold iL
  simp only
  rw [if_pos (by omega),dI hi]
  simp only [Option.bind_some]
  rw [dP (n:=k+1) (by omega) (by omega),dP (n:=k+1+1) (by omega) (by omega),dP (n:=k+1+1+1) (by omega) (by omega),dP (n:=k+1+1+1+1) (by omega) (by omega),dP (n:=k+1+1+1+1+1) (by omega) (by omega),show k+1+1+1+1+1=k+5 by omega]) (fun k=>by
  unfold iL
  simp only
  rw [if_neg (by omega)]) h0 (by omega)
 exact ⟨r,by rw [r1];rfl,r2,by omega⟩
theorem alb (j:fM) (hb:Dn j):∃r,yS j 1=some r∧0≤r:=by
 obtain ⟨⟨hd,hv,_⟩,⟨hl1,hl2⟩,⟨hq,_⟩,_,_,_,_,_,⟨ho,_⟩,⟨hc,_⟩⟩:=hb
 unfold yS vK
 obtain ⟨a,a1,a2,a3⟩:=ZI j.aS.az hd (k:=1) (by omega) (by omega)
 obtain ⟨b,b1,b2,b3⟩:=ail j.aS.dM hv (k:=a) (by omega) (by omega)
 obtain ⟨c,c1,c2,c3⟩:=ac3 j.Leaves hl1 (fun x hx=>(hl2 x hx).2.2.2.2.2.2.1) (k:=b) (by omega) (by omega)
 obtain ⟨d,d1,d2,d3⟩:=ala j.bP hq (k:=c) (by omega) (by omega)
 obtain ⟨e,e1,e2,e3⟩:=WA j.Order ho (k:=d) (by omega) (by omega)
 obtain ⟨f,f1,f2,f3⟩:=WA j.G6 hc (k:=e) (by omega) (by omega)
 exact ⟨f,by simp only [a1,b1,c1,d1,e1,f1,Option.bind_some],by omega⟩
noncomputable def mtx (k:Int):ByteArray:=(fQ k).getD ⟨#[]⟩
theorem LZ {k:Int} (h:k≤2305843009213693952):fQ k=some (mtx k):=by
 obtain ⟨r,hr⟩:=I8 k h
 unfold mtx
 rw [hr];rfl
noncomputable def fmk (i:Nat):ai:=⟨1+3* (i:Int),mtx (1+3* (i:Int)+1),mtx (1+3* (i:Int)+2)⟩
noncomputable def fms (l:List ai) (i:Nat):List ai:=(List.range i).map fmk++l.drop i
theorem WB (l:List ai) {i:Nat} (h:i≤l.length):(fms l i).length=l.length:=by
 unfold fms
 rw [List.length_append,List.length_map,List.length_range,List.length_drop];omega
theorem aim (l:List ai) {i:Nat} (h:i<l.length):(fms l i).set i (fmk i)=fms l (i+1):=by
 unfold fms
 rw [List.set_append,if_neg (by rw [List.length_map,List.length_range];omega),List.length_map,List.length_range,Nat.sub_self,List.range_succ,List.map_append,List.append_assoc,List.drop_eq_getElem_cons h]
 rfl
theorem ain (l:List ai) (h:l.length≤1073741824):og l 1=some (1+3* (l.length:Int),fms l l.length):=by
 unfold og
 have h0:((1:Int),(0:Int),l)=(1+3* ((0:Nat):Int),((0:Nat):Int),fms l 0):=by
  unfold fms;simp
 rw [h0,kC (fun i:Nat=>(1+3* (i:Int),(i:Int),fms l i)) l.length (r:=(1+3* (l.length:Int),fms l l.length)) (fun i hi=>?_) ?_]
 ·rfl
 ·unfold nZ
  simp only
  rw [if_neg (by rw [WB l (Nat.le_refl _)];omega)]
 ·have hlen:=WB l (Nat.le_of_lt hi)
  have hi':i< (fms l i).length:=by rw [hlen];exact hi
  have e1:w64 (1+3* (i:Int)+1)=1+3* (i:Int)+1:=dP (by omega) (by omega)
  have e2:w64 (1+3* (i:Int)+1+1)=1+3* (i:Int)+2:=by rw [dP (by omega) (by omega)];omega
  have e3:w64 (1+3* (i:Int)+2+1)=1+3* ((i+1:Nat):Int):=by rw [dP (by omega) (by omega)];omega
  unfold nZ
  simp only
  rw [if_pos (by rw [hlen];omega),dI hi']
  simp only [Option.bind_some,e1,e2,e3,LZ (show 1+3* (i:Int)+1≤2305843009213693952 by omega),LZ (show 1+3* (i:Int)+2≤2305843009213693952 by omega),RP,Int.toNat_natCast,List.set_set,List.getElem?_set_self hi',dX (show i<9223372036854775807 by omega)]
  rw [←aim l hi]
  rfl
theorem aio (l:List ai) (h:l.length≤1073741824):kW (fms l l.length) 1=some (1+3* (l.length:Int)):=by
 have hl:=WB l (Nat.le_refl _)
 have hg:∀i,i<l.length→rd (fms l l.length) (i:Int)=some (fmk i):=by
  intro i hi
  rw [RP]
  unfold fms
  rw [List.getElem?_append_left (by rw [List.length_map,List.length_range];exact hi),List.getElem?_map,List.getElem?_range hi]
  rfl
 unfold kW
 have h0:((1:Int),(0:Int))=(1+3* ((0:Nat):Int),((0:Nat):Int)):=by simp
 rw [h0,kC (fun i:Nat=>(1+3* (i:Int),(i:Int))) l.length (r:= .inl (1+3* (l.length:Int))) (fun i hi=>?_) ?_]
 ·rfl
 ·unfold oh
  simp only
  rw [if_neg (by rw [hl];omega)]
 ·have e1:w64 (1+3* (i:Int)+1)=1+3* (i:Int)+1:=dP (by omega) (by omega)
  have e2:w64 (1+3* (i:Int)+1+1)=1+3* (i:Int)+2:=by rw [dP (by omega) (by omega)];omega
  have e3:w64 (1+3* (i:Int)+2+1)=1+3* ((i+1:Nat):Int):=by rw [dP (by omega) (by omega)];omega
  unfold oh
  simp only
  rw [if_pos (by rw [hl];omega),hg i hi]
  simp only [Option.bind_some,e1,e2,e3,LZ (show 1+3* (i:Int)+1≤2305843009213693952 by omega),LZ (show 1+3* (i:Int)+2≤2305843009213693952 by omega),dX (show i<9223372036854775807 by omega)]
  unfold fmk
  simp
theorem anE (l:List ai) (h:l.length≤1073741824):lu l l=some true:=by
 unfold lu
 rw [if_neg (by simp),AB (n:=l.length) (by omega) (fun i hi=>?_) ?_]
 ·rfl
 ·unfold qP
  rw [if_neg (by omega)]
 ·unfold qP yM
  rw [if_pos (by omega),dI hi,Option.bind_some,Option.bind_some]
  simp
theorem af2 (o:List Int) (n:Nat) (ho:o.length≤1048576) (hn:n≤1048576) (h:iH o (n:Int)=some true):∀x∈o,0≤x∧x<n:=by
 unfold iH at h
 have key:∀(m i:Nat),i+m=o.length→(∃r,aT (eP o (n:Int)) (i:Int)=some r∧(r= .inl ()∨r= .inr false))∧(aT (eP o (n:Int)) (i:Int)=some (.inl ())→∀j (hj:j<o.length),i≤j→0≤o[j]∧o[j] <n):=by
  intro m
  induction m with
  | zero=>
   intro i hi
   have e:eP o (n:Int) (i:Int)=some (.inr (.inl ())):=by unfold eP;rw [if_neg (by omega)]
   exact ⟨⟨_,dG e,.inl rfl⟩,fun _ j hj hij=>by omega⟩
  | succ m ih=>
   intro i hi
   have hi':i<o.length:=by omega
   have hs:slc o 0 (i:Int)=some (o.take i):=by
    unfold slc
    rw [if_pos ⟨by omega,by omega,by omega⟩]
    simp
   have hlen:(o.take i).length≤1048576:=by rw [List.length_take];omega
   obtain ⟨v,hv,hv2⟩:∃v,eP o (n:Int) (i:Int)=some v∧(v= .inr (.inr false)∨(v= .inl ((i+1:Nat):Int)∧0≤o[i]∧o[i] <n)):=by
    unfold eP
    rw [if_pos (by omega),dI hi',dX (by omega),hs,dP (n:=(n:Int) - 1) (by omega) (by omega)]
    simp only [Option.bind_some,vT,Iy _ _ hlen]
    by_cases c:0≤o[i]∧o[i]≤(n:Int) - 1
    ·rw [decide_eq_true c]
     cases decide (o[i]∈o.take i) with
     | false=>exact ⟨_,rfl,.inr ⟨rfl,c.1,by omega⟩⟩
     | true=>exact ⟨_,rfl,.inl rfl⟩
    ·rw [decide_eq_false c]
     exact ⟨_,rfl,.inl rfl⟩
   rcases hv2 with rfl | ⟨rfl,h1,h2⟩
   ·rw [dG hv]
    exact ⟨⟨_,rfl,.inr rfl⟩,fun h=>by cases h⟩
   ·rw [iO hv]
    obtain ⟨a,b⟩:=ih (i+1) (by omega)
    refine ⟨a,fun h j hj hij=>?_⟩
    by_cases e:j=i
    ·subst e;exact ⟨h1,h2⟩
    ·exact b h j hj (by omega)
 obtain ⟨⟨r,r1,r2⟩,b⟩:=key o.length 0 (by omega)
 rw [show (((0:Nat):Int))=0 from rfl] at r1 b
 rw [r1,Option.bind_some] at h
 rcases r2 with rfl | rfl
 ·intro x hx
  obtain ⟨j,hj,rfl⟩:=List.getElem_of_mem hx
  exact b r1 j hj (Nat.zero_le _)
 ·cases h
theorem aip (j:fM) (hb:Dn j) (h:lV j=some true):iQ j.aS.az=some true∧iH j.Order (j.aS.az.aG.length:Int)=some true:=by
 have hj:=h
 obtain ⟨hp,⟨hl1,hl2⟩,⟨hq,_⟩,_,_,_,_,_,⟨ho,_⟩,_⟩:=hb
 obtain ⟨a,a1,a2,a3⟩:=afU j.aS hp
 unfold lV at h
 rw [a2,Option.bind_some] at h
 cases a with
 | false=>simp at h
 | true=>
 have hv:=a3 rfl
 have hd:iQ j.aS.az=some true:=by
  have:=a2
  unfold kV at this
  obtain ⟨v,v1,v2⟩:=abx j.aS.az hp.1
  rw [v2] at this ⊢
  cases v with
  | true=>rfl
  | false=>simp at this
 refine ⟨hd,?_⟩
 rw [hv] at h
 obtain ⟨o,o1,o2⟩:=Yc j.aS.az j.Order j.aS.az.aG.length rfl hp.1.2.2.2.1 ho
 rw [o2] at h ⊢
 cases o with
 | true=>rfl
 | false=>
  exfalso
  rw [if_pos rfl] at h
  obtain ⟨x1,_,h⟩:=Option.bind_eq_some_iff.1 h
  cases x1 with
  | true=>rw [if_pos rfl] at h;cases h
  | false=>
  rw [if_neg (by decide)] at h
  obtain ⟨x2,_,h⟩:=Option.bind_eq_some_iff.1 h
  cases x2 with
  | true=>rw [if_pos rfl] at h;cases h
  | false=>
  rw [if_neg (by decide)] at h
  simp only [vT,Option.bind_some] at h
  have key:∀b1 b2 b3 b4:Bool,¬((if b1=true then (if b2=true then (if b3=true then (if b4=true then some false else some false) else some false) else some false) else some false).bind fun t=>some t)=some true:=by decide
  exact key _ _ _ _ h
theorem af4 {ρ σ:Type} {f:Int→Option (Int ⊕ (Unit ⊕ ρ))} {g:Int→Option (Int ⊕ (Unit ⊕ σ))} (n:Nat) (p:Nat→Bool) (R:Nat→ρ) (S:Nat→σ) (hn:n≤1048576)
 (h1:∀i:Nat,i<n→f (i:Int)=if p i=true then some (.inr (.inr (R i))) else some (.inl (w64 ((i:Int)+1)))) (h2:∀i:Nat,i<n→g (i:Int)=if p i=true then some (.inr (.inr (S i))) else some (.inl (w64 ((i:Int)+1))))
 (hf:f (n:Int)=some (.inr (.inl ()))) (hg:g (n:Int)=some (.inr (.inl ()))):
 (aT f 0=some (.inl ())∧aT g 0=some (.inl ()))∨∃i,i<n∧p i=true∧aT f 0=some (.inr (R i))∧aT g 0=some (.inr (S i)):=by
 have key:∀(m i:Nat),i+m=n→(aT f (i:Int)=some (.inl ())∧aT g (i:Int)=some (.inl ()))∨∃k,k<n∧p k=true∧aT f (i:Int)=some (.inr (R k))∧aT g (i:Int)=some (.inr (S k)):=by
  intro m
  induction m with
  | zero=>
   intro i hi
   obtain rfl:i=n:=by omega
   exact .inl ⟨dG hf,dG hg⟩
  | succ m ih=>
   intro i hi
   have e1:=h1 i (by omega)
   have e2:=h2 i (by omega)
   cases hp:p i with
   | true=>
    rw [hp,if_pos rfl] at e1 e2
    exact .inr ⟨i,by omega,hp,dG e1,dG e2⟩
   | false=>
    rw [hp,if_neg (by decide),dX (by omega)] at e1 e2
    rw [iO e1,iO e2]
    exact ih (i+1) (by omega)
 exact key n 0 (by omega)
theorem af5 {out:List ai} (x:ai) (h:out.length≤1073741824):apd 40 out [x]=some (out++[x]):=X5 (by simp;omega)
section
variable (j:fM) (hb:Dn j)
def ofW (j:fM) (k:Int):ByteArray:=((j.aS.az.aG[k.toNat]?).map (·.Name)).getD ⟨#[]⟩
theorem WC {k:Int} (h0:0≤k) (h1:k< (j.aS.az.aG.length:Int)):qN j k=some (ofW j k)∧∃f,rd j.aS.az.aG k=some f∧f.Name=ofW j k:=by
 have hk:k.toNat<j.aS.az.aG.length:=by omega
 have e:rd j.aS.az.aG k=some (j.aS.az.aG[k.toNat]):=by
  have:=dI hk
  rwa [Int.toNat_of_nonneg h0] at this
 unfold qN ofW
 rw [e,List.getElem?_eq_getElem hk]
 exact ⟨rfl,_,rfl,rfl⟩
noncomputable def Jp (j:fM) (n:Nat):List ai:=((List.range n).filter fun k:Nat=>!decide ((k:Int)∈j.Order)).map fun k:Nat=>⟨4,ofW j (k:Int),⟨#[109,105,115,115,105,110,103]⟩⟩
theorem UE (n:Nat):Jp j (n+1)=if decide ((n:Int)∈j.Order)=true then Jp j n else Jp j n++[⟨4,ofW j (n:Int),⟨#[109,105,115,115,105,110,103]⟩⟩]:=by
 unfold Jp
 rw [List.range_succ,List.filter_append,List.map_append]
 by_cases c:(n:Int)∈j.Order
 ·rw [if_pos (decide_eq_true c)];simp [c]
 ·rw [if_neg (by simpa using c)];simp [c]
theorem Su (n:Nat):(Jp j n).length≤n:=by
 unfold Jp
 rw [List.length_map]
 refine Nat.le_trans (List.length_filter_le _ _) ?_
 rw [List.length_range]
 exact Nat.le_refl _
include hb
theorem Sv (out:List ai) (hout:out.length≤16):lX j out=some (out++Jp j j.aS.az.aG.length):=by
 obtain ⟨hp,_,_,_,_,_,_,_,⟨ho,_⟩,_⟩:=hb
 have hf:j.aS.az.aG.length≤1048576:=hp.1.2.2.2.1
 unfold lX
 have h0:((0:Int),out)=(((0:Nat):Int),out++Jp j 0):=by unfold Jp;simp
 rw [h0,kC (fun i:Nat=>((i:Int),out++Jp j i)) j.aS.az.aG.length (r:=out++Jp j j.aS.az.aG.length) (fun i hi=>?_) ?_]
 ·rfl
 ·unfold vG
  simp only
  rw [if_neg (by omega)]
 ·have:=Su j i
  obtain ⟨n1,_⟩:=WC j (k:=(i:Int)) (by omega) (by omega)
  unfold vG pK
  simp only
  rw [if_pos (by omega),LY _ _ ho,Option.bind_some,n1,UE]
  by_cases c:decide ((i:Int)∈j.Order)=true
  ·rw [if_pos c,if_pos c,dX (by omega)]
  ·rw [if_neg c,if_neg c,Option.bind_some,af5 _ (by rw [List.length_append];omega),Option.bind_some,dX (by omega),List.append_assoc]
theorem Sz (out:List ai) (hout:out.length≤16):iW j out=some (out++Jp j j.aS.az.aG.length):=by
 obtain ⟨hp,_,_,_,_,_,_,_,⟨ho,_⟩,_⟩:=hb
 have hf:j.aS.az.aG.length≤1048576:=hp.1.2.2.2.1
 unfold iW
 have h0:((0:Int),out)=(((0:Nat):Int),out++Jp j 0):=by unfold Jp;simp
 rw [h0,kC (fun i:Nat=>((i:Int),out++Jp j i)) j.aS.az.aG.length (r:=out++Jp j j.aS.az.aG.length) (fun i hi=>?_) ?_]
 ·rfl
 ·unfold ni
  simp only
  rw [if_neg (by omega)]
 ·have:=Su j i
  obtain ⟨_,f,n1,n2⟩:=WC j (k:=(i:Int)) (by omega) (by omega)
  unfold ni jy
  simp only
  rw [if_pos (by omega),n1,Option.bind_some,Iy _ _ ho,Option.bind_some,n2,UE]
  by_cases c:decide ((i:Int)∈j.Order)=true
  ·rw [if_pos c,if_pos c,dX (by omega)]
  ·rw [if_neg c,if_neg c,af5 _ (by rw [List.length_append];omega),Option.bind_some,dX (by omega),List.append_assoc]
theorem aiq (h:lV j=some true):∃l,wL j=some l∧mZ j=some l∧l.length≤1048577:=by
 obtain ⟨hd,hio⟩:=aip j hb h
 have hb':=hb
 obtain ⟨hp,_,_,_,_,_,_,_,⟨ho,_⟩,_⟩:=hb'
 have hf:j.aS.az.aG.length≤1048576:=hp.1.2.2.2.1
 have hin:=af2 j.Order _ ho hf hio
 have hD:=anC hp.1
 have hM:=aik hD
 have hml:(Dt j.aS.az).near.length=j.aS.az.aG.length:=by unfold Dt;simp
 unfold wL mZ tH
 rw [aij hD,hd,hio,ZG hD]
 simp only [Option.bind_some,if_true]
 unfold zV
 have step:∀i (hi:i<j.Order.length),lW (Dt j.aS.az) j.Order (i:Int)=(if (kdP (Dt j.aS.az) (j.Order.take i) j.Order[i].toNat != 0)=true then some (.inr (.inr ((i:Int),kdP (Dt j.aS.az) (j.Order.take i) j.Order[i].toNat))) else some (.inl (w64 ((i:Int)+1))))∧
  jq j.Order (Dt j.aS.az) (i:Int)=(if (kdP (Dt j.aS.az) (j.Order.take i) j.Order[i].toNat != 0)=true then some (.inr (.inr ((i:Int),kdP (Dt j.aS.az) (j.Order.take i) j.Order[i].toNat,0))) else some (.inl (w64 ((i:Int)+1)))):=by
  intro i hi
  obtain ⟨q1,q2⟩:=hin _ (List.getElem_mem hi)
  have hs:slc j.Order 0 (i:Int)=some (j.Order.take i):=by
   unfold slc
   rw [if_pos ⟨by omega,by omega,by omega⟩]
   simp
  have hlen:(j.Order.take i).length≤1048576:=by rw [List.length_take];omega
  have hk:j.Order[i].toNat< (Dt j.aS.az).near.length:=by rw [hml];omega
  have ek:((j.Order[i].toNat:Nat):Int)=j.Order[i]:=Int.toNat_of_nonneg q1
  have k1:=ac1 hM hlen hk
  have k2:=ZH hM hlen hk
  rw [ek] at k1 k2
  unfold lW jq
  have hc:(i:Int) < (j.Order.length:Int):=by omega
  rw [if_pos hc,if_pos hc,dI hi,hs]
  simp only [Option.bind_some,k1,k2]
  by_cases c:kdP (Dt j.aS.az) (j.Order.take i) j.Order[i].toNat=0
  ·simp [c]
  ·simp [c]
 have k3:∀F k,kdP (Dt j.aS.az) F k=0∨kdP (Dt j.aS.az) F k=1∨kdP (Dt j.aS.az) F k=2:=by
  intro F k
  unfold kdP
  split
  ·split
   ·exact .inr (.inr rfl)
   ·exact .inl rfl
  ·exact .inr (.inl rfl)
 have hnil:∀x:ai,apd 40 ([]:List ai) [x]=some [x]:=fun x=>af5 x (Nat.zero_le _)
 have auW:=Su j j.aS.az.aG.length
 rcases af4 (f:=lW (Dt j.aS.az) j.Order) (g:=jq j.Order (Dt j.aS.az)) j.Order.length
  (fun i=>if hi:i<j.Order.length then kdP (Dt j.aS.az) (j.Order.take i) j.Order[i].toNat != 0 else false)
  (fun i=>if hi:i<j.Order.length then ((i:Int),kdP (Dt j.aS.az) (j.Order.take i) j.Order[i].toNat) else (0,0))
  (fun i=>if hi:i<j.Order.length then ((i:Int),kdP (Dt j.aS.az) (j.Order.take i) j.Order[i].toNat,0) else (0,0,0)) ho
  (fun i hi=>by simp only [dif_pos hi];exact (step i hi).1) (fun i hi=>by simp only [dif_pos hi];exact (step i hi).2)
  (by unfold lW;rw [if_neg (by omega)]) (by unfold jq;rw [if_neg (by omega)]) with ⟨a,b⟩ | ⟨i,hi,hp,a,b⟩
 ·rw [a,b]
  refine ⟨_,Sv j hb [] (by simp),?_,by simp;omega⟩
  exact Sz j hb [] (by simp)
 ·simp only [dif_pos hi] at hp a b
  obtain ⟨q1,q2⟩:=hin _ (List.getElem_mem hi)
  obtain ⟨n1,fa,n2,n3⟩:=WC j q1 q2
  rw [a,b]
  simp only [Option.bind_some]
  rcases k3 (j.Order.take i) j.Order[i].toNat with e | e | e
  ·rw [e] at hp;cases hp
  ·rw [e,if_pos rfl,if_pos (by decide),if_neg (by decide),dI hi,Option.bind_some,n1,Option.bind_some,hnil,Option.bind_some]
   unfold lY iY
   simp only
   rw [if_neg (by decide),dI hi,Option.bind_some,n2,Option.bind_some,hnil,Option.bind_some,n3]
   refine ⟨_,Sv j hb _ (by simp),Sz j hb _ (by simp),by simp;omega⟩
  ·rw [e,if_neg (by decide),if_pos (by decide),if_pos rfl]
   unfold lY iY
   simp only
   rw [if_pos trivial,dI hi,Option.bind_some,n1,Option.bind_some,hnil,Option.bind_some,Option.bind_some,n2,Option.bind_some,hnil,Option.bind_some,n3]
   refine ⟨_,Sv j hb _ (by simp),Sz j hb _ (by simp),by simp;omega⟩
end
theorem L6 (a:fM) (wa:Ya a):jQ a=some true:=by
 unfold jQ
 obtain ⟨v,v1,v2,v3⟩:=afN a wa (left:=1048576) (by omega) (by omega)
 rw [v1,Option.bind_some]
 by_cases c1:v<0
 ·rw [if_pos c1]
 rw [if_neg c1]
 have ha:=v3.resolve_left c1
 obtain ⟨z,z1,z2⟩:=ak8 a ha
 obtain ⟨m,m1,m2⟩:=alb a ha
 have both:∃l c,mQ a=some (l,c)∧ku a=some (l,c)∧l.length≤1048577:=by
  unfold mQ BJ ku
  rw [z1,z2]
  cases z with
  | false=>exact ⟨_,_,rfl,rfl,by simp⟩
  | true=>
   obtain ⟨l,l1,l2,l3⟩:=aiq a ha z2
   simp only [Option.bind_some,l1,l2]
   exact ⟨_,_,rfl,rfl,l3⟩
 obtain ⟨l,c,b1,b2,b3⟩:=both
 have hm:=ain l (by omega)
 have hh:=aio l (by omega)
 have he:=anE l (by omega)
 have n1:¬m<0:=by omega
 have n2:¬(1+3* (l.length:Int)) <0:=by omega
 simp only [afO a ha,b1,b2,Option.bind_some,he,afP a ha,m1,hm,hh,n1,n2,if_true,if_false,ne_eq,not_true_eq_false,or_self,bne_self_eq_false,Bool.false_eq_true]
end Go.Pw
