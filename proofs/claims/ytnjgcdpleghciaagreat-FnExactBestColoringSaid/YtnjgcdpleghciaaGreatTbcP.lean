/- The plain law of FnExactBestColoring. Conditions: none. -/
import Derived.Test.YtnjgcdpleghciaaGreatTbcT
import Derived.Test.YtnjgcdpleghciaaGreatSimPe
import Derived.Test.YtnjgcdpleghciaaGreatSimPn
import Derived.Test.YtnjgcdpleghciaaGreatSimRh
namespace Go.Pw
open Go.Sim (min2 max2)
set_option linter.unusedVariables false
set_option linter.unusedSimpArgs false
theorem maxLen_eq:maxLen=9223372036854775807:=rfl
theorem Ya {α:Type} {f:Int×Int→Option ((Int×Int) ⊕ (Int ⊕ Int))} (l:List α) (B:α→Prop) (hl:l.length<4611686018427387904)
 (h1:∀(i:Nat) (hi:i<l.length) (u:Int),0≤u→u≤1048576→∃v,v≤u∧(v<0∨B l[i])∧f (u,(i:Int))=if v<0 then some (.inr (.inr (-1))) else some (.inl (v,w64 ((i:Int)+1))))
 (h2:∀u,f (u,(l.length:Int))=some (.inr (.inl u))) {left:Int} (h3:0≤left) (h4:left≤1048576):
 Ev (aG f (left,0)) (fun r=>r= .inr (-1)∨∃v,r= .inl v∧0≤v∧v≤left∧∀x∈l,B x):=by
 refine Ev.loop (fun s=>∃i:Nat,s.2=(i:Int)∧i≤l.length∧0≤s.1∧s.1≤left∧∀x∈l.take i,B x) (fun s=>((l.length:Int) - s.2).toNat) ?_ ⟨0,rfl,Nat.zero_le _,h3,Int.le_refl _,fun x hx=>(by simp at hx)⟩
 rintro ⟨u,i⟩ ⟨j,rfl,j1,j2,j3,j4⟩
 simp only at j2 j3
 by_cases c:j<l.length
 ·obtain ⟨v,v1,v2,v3⟩:=h1 j c u j2 (by omega)
  rw [v3]
  refine Ev.ite (fun _=>Ev.ret (.inl rfl)) fun hv=>?_
  rw [bU (by omega)]
  refine Ev.ret ⟨⟨j+1,rfl,by omega,by simp only;omega,by simp only;omega,fun x hx=>?_⟩,by simp only;omega⟩
  rw [List.take_succ_eq_append_getElem c] at hx
  rcases List.mem_append.1 hx with hx | hx
  ·exact j4 x hx
  ·rw [List.mem_singleton] at hx
   subst hx
   exact v2.resolve_left hv
 ·obtain rfl:j=l.length:=by omega
  rw [h2]
  exact Ev.ret (.inr ⟨u,rfl,j2,j3,by rwa [List.take_length] at j4⟩)
def LM (x:af):Prop:=(Lit.int .i64 x.X).wf=true∧(Lit.int .i64 x.Y).wf=true
def wu (x:af):Prop:=True∧True
theorem TF (x:af) (h:wu x):uQ x=some x:=by
 unfold uQ
 rfl
theorem TG (x:af) (h:wu x):vz x x=some true:=by
 unfold vz
 simp []
theorem Q4 (l:(List af)) (h:((∀a∈l,LM a)∧l.length≤maxLen)) {left:Int} (h0:0≤left) (h1:left≤1048576):Ev (rY l left) (fun v=>v≤left∧(v<0∨(l.length≤1048576∧∀a∈l,wu a))):=by
 obtain ⟨hw,hl⟩:=h
 rw [maxLen_eq] at hl
 unfold rY
 rw [fH (n:=left - (l.length:Int)) (by omega) (by omega)]
 refine Ev.ite (fun _=>Ev.ret ⟨by omega,.inl (by omega)⟩) fun c=>?_
 exact Ev.ret ⟨by omega,.inr ⟨by omega,fun a _=>⟨trivial,trivial⟩⟩⟩
theorem Q5 (l:(List af)) (h:(l.length≤1048576∧∀a∈l,wu a)):sG l=some l:=by
 have hl:=h.1
 unfold sG mkl
 rw [if_pos (by constructor<;>omega),Option.bind_some]
 rw [copyS (f:=nP l) l _ (by simp) (by omega) ?_ ?_]
 ·rfl
 ·intro i hi out ho
  unfold nP
  simp only
  rw [if_pos (by omega),eu hi,Option.bind_some,TF l[i] (h.2 _ (List.getElem_mem hi)),Option.bind_some,eu (by omega:i<out.length),Option.bind_some]
  simp
 ·intro out
  unfold nP
  simp
theorem Q7 (l:(List af)) (h:(l.length≤1048576∧∀a∈l,wu a)):sW l l=some true:=by
 have hl:=h.1
 unfold sW
 rw [if_neg (by simp),Dl (n:=l.length) (by omega) ?_ ?_]
 ·rfl
 ·intro i hi
  unfold qY
  rw [if_pos (by omega),eu hi]
  simp only [Option.bind_some]
  rw [TG l[i] (h.2 _ (List.getElem_mem hi))]
  rfl
 ·unfold qY
  rw [if_neg (by omega)]
theorem Q8 (l:(List Int)) (h:((∀a∈l,(Lit.int .i64 a).wf=true)∧l.length≤maxLen)) {left:Int} (h0:0≤left) (h1:left≤1048576):Ev (rZ l left) (fun v=>v≤left∧(v<0∨(l.length≤1048576∧∀a∈l,True))):=by
 obtain ⟨hw,hl⟩:=h
 rw [maxLen_eq] at hl
 unfold rZ
 rw [fH (n:=left - (l.length:Int)) (by omega) (by omega)]
 refine Ev.ite (fun _=>Ev.ret ⟨by omega,.inl (by omega)⟩) fun c=>?_
 exact Ev.ret ⟨by omega,.inr ⟨by omega,fun a _=>trivial⟩⟩
theorem Q9 (l:(List Int)) (h:(l.length≤1048576∧∀a∈l,True)):sH l=some l:=by
 have hl:=h.1
 unfold sH mkl
 rw [if_pos (by constructor<;>omega),Option.bind_some]
 rw [copyS (f:=nR l) l _ (by simp) (by omega) ?_ ?_]
 ·rfl
 ·intro i hi out ho
  unfold nR
  simp only
  rw [if_pos (by omega),eu hi,Option.bind_some,eu (by omega:i<out.length),Option.bind_some]
  simp
 ·intro out
  unfold nR
  simp
theorem Rf (l:(List Int)) (h:(l.length≤1048576∧∀a∈l,True)):jl l l=some true:=by
 have hl:=h.1
 unfold jl
 rw [if_neg (by simp),Dl (n:=l.length) (by omega) ?_ ?_]
 ·rfl
 ·intro i hi
  unfold lg
  rw [if_pos (by omega),eu hi]
  simp only [Option.bind_some]
  simp
 ·unfold lg
  rw [if_neg (by omega)]
def IB (x:dn):Prop:=x.Name.size≤maxLen∧((∀a∈x.Ring,(Lit.int .i64 a).wf=true)∧x.Ring.length≤maxLen)
def uF (x:dn):Prop:=x.Name.size≤1048576∧(x.Ring.length≤1048576∧∀a∈x.Ring,True)
theorem VO (x:dn) (h:IB x) {left:Int} (h0:0≤left) (h1:left≤1048576):Ev (wP x left) (fun v=>v≤left∧(v<0∨uF x)):=by
 obtain ⟨w0,w1⟩:=h
 unfold wP
 rw [maxLen_eq] at w0
 rw [fH (n:=left - (x.Name.size:Int)) (by omega) (by omega)]
 refine Ev.ite (fun _=>Ev.ret ⟨by omega,.inl (by omega)⟩) fun c0=>?_
 refine Ev.bind (Q8 x.Ring w1 (left:=left - (x.Name.size:Int)) (by omega) (by omega)) fun v1 q1=>?_
 refine Ev.ite (fun _=>Ev.ret ⟨by omega,.inl (by omega)⟩) fun c1=>?_
 exact Ev.ret ⟨by omega,.inr ⟨by omega,q1.2.resolve_left c1⟩⟩
theorem VP (x:dn) (h:uF x):wQ x=some x:=by
 unfold wQ
 rw [Q9 x.Ring h.2,Option.bind_some]
theorem VQ (x:dn) (h:uF x):xE x x=some true:=by
 unfold xE
 simp [Rf x.Ring (h.2)]
theorem TI (l:(List dn)) (h:((∀a∈l,IB a)∧l.length≤maxLen)) {left:Int} (h0:0≤left) (h1:left≤1048576):Ev (uP l left) (fun v=>v≤left∧(v<0∨(l.length≤1048576∧∀a∈l,uF a))):=by
 obtain ⟨hw,hl⟩:=h
 rw [maxLen_eq] at hl
 unfold uP
 rw [fH (n:=left - (l.length:Int)) (by omega) (by omega)]
 refine Ev.ite (fun _=>Ev.ret ⟨by omega,.inl (by omega)⟩) fun c=>?_
 refine Ev.bind (Ya (f:=oP l) l (fun a=>uF a) (by omega) (fun i hi u hu1 hu2=>?_) (fun u=>?_) (left:=left - (l.length:Int)) (by omega) (by omega)) fun r hr=>?_
 ·
  obtain ⟨v,v1,v2,v3⟩:=VO l[i] (hw _ (List.getElem_mem hi)) hu1 hu2
  refine ⟨v,v2,v3,?_⟩
  unfold oP
  simp only
  rw [if_pos (by omega),eu hi,Option.bind_some,v1,Option.bind_some]
 ·unfold oP
  simp only
  rw [if_neg (by omega)]
 ·rcases hr with rfl | ⟨v,rfl,g1,g2,g3⟩
  ·exact Ev.ret ⟨by omega,.inl (by omega)⟩
  ·exact Ev.ret ⟨by omega,.inr ⟨by omega,g3⟩⟩
theorem TJ (l:(List dn)) (h:(l.length≤1048576∧∀a∈l,uF a)):uS l=some l:=by
 have hl:=h.1
 unfold uS mkl
 rw [if_pos (by constructor<;>omega),Option.bind_some]
 rw [copyS (f:=oQ l) l _ (by simp) (by omega) ?_ ?_]
 ·rfl
 ·intro i hi out ho
  unfold oQ
  simp only
  rw [if_pos (by omega),eu hi,Option.bind_some,VP l[i] (h.2 _ (List.getElem_mem hi)),Option.bind_some,eu (by omega:i<out.length),Option.bind_some]
  simp
 ·intro out
  unfold oQ
  simp
theorem TK (l:(List dn)) (h:(l.length≤1048576∧∀a∈l,uF a)):vC l l=some true:=by
 have hl:=h.1
 unfold vC
 rw [if_neg (by simp),Dl (n:=l.length) (by omega) ?_ ?_]
 ·rfl
 ·intro i hi
  unfold tH
  rw [if_pos (by omega),eu hi]
  simp only [Option.bind_some]
  rw [VQ l[i] (h.2 _ (List.getElem_mem hi))]
  rfl
 ·unfold tH
  rw [if_neg (by omega)]
def GM (x:aA):Prop:=(Lit.int .i64 x.Width).wf=true∧(Lit.int .i64 x.Height).wf=true∧((∀a∈x.bn,LM a)∧x.bn.length≤maxLen)∧((∀a∈x.aB,IB a)∧x.aB.length≤maxLen)
def jU (x:aA):Prop:=True∧True∧(x.bn.length≤1048576∧∀a∈x.bn,wu a)∧(x.aB.length≤1048576∧∀a∈x.aB,uF a)
theorem Pv (x:aA) (h:GM x) {left:Int} (h0:0≤left) (h1:left≤1048576):Ev (qA x left) (fun v=>v≤left∧(v<0∨jU x)):=by
 obtain ⟨w0,w1,w2,w3⟩:=h
 unfold qA
 refine Ev.bind (Q4 x.bn w2 (left:=left) (by omega) (by omega)) fun v2 q2=>?_
 refine Ev.ite (fun _=>Ev.ret ⟨by omega,.inl (by omega)⟩) fun c2=>?_
 refine Ev.bind (TI x.aB w3 (left:=v2) (by omega) (by omega)) fun v3 q3=>?_
 refine Ev.ite (fun _=>Ev.ret ⟨by omega,.inl (by omega)⟩) fun c3=>?_
 exact Ev.ret ⟨by omega,.inr ⟨trivial,trivial,q2.2.resolve_left c2,q3.2.resolve_left c3⟩⟩
theorem Px (x:aA) (h:jU x):ku x=some x:=by
 unfold ku
 rw [Q5 x.bn h.2.2.1,Option.bind_some,TJ x.aB h.2.2.2,Option.bind_some]
theorem Py (x:aA) (h:jU x):qH x x=some true:=by
 unfold qH
 simp [Q7 x.bn (h.2.2.1),TK x.aB (h.2.2.2)]
def DX (x:ai):Prop:=x.jo.size≤maxLen∧(Lit.int .i64 x.dV).wf=true∧(Lit.int .i64 x.aZ).wf=true
def qM (x:ai):Prop:=x.jo.size≤1048576∧True∧True
theorem Rh (x:ai) (h:DX x) {left:Int} (h0:0≤left) (h1:left≤1048576):Ev (su x left) (fun v=>v≤left∧(v<0∨qM x)):=by
 obtain ⟨w0,w1,w2⟩:=h
 unfold su
 rw [maxLen_eq] at w0
 rw [fH (n:=left - (x.jo.size:Int)) (by omega) (by omega)]
 refine Ev.ite (fun _=>Ev.ret ⟨by omega,.inl (by omega)⟩) fun c0=>?_
 exact Ev.ret ⟨by omega,.inr ⟨by omega,trivial,trivial⟩⟩
theorem Ri (x:ai) (h:qM x):sJ x=some x:=by
 unfold sJ
 rfl
theorem Rj (x:ai) (h:qM x):sZ x x=some true:=by
 unfold sZ
 simp []
theorem Pz (l:(List ai)) (h:((∀a∈l,DX a)∧l.length≤maxLen)) {left:Int} (h0:0≤left) (h1:left≤1048576):Ev (qB l left) (fun v=>v≤left∧(v<0∨(l.length≤1048576∧∀a∈l,qM a))):=by
 obtain ⟨hw,hl⟩:=h
 rw [maxLen_eq] at hl
 unfold qB
 rw [fH (n:=left - (l.length:Int)) (by omega) (by omega)]
 refine Ev.ite (fun _=>Ev.ret ⟨by omega,.inl (by omega)⟩) fun c=>?_
 refine Ev.bind (Ya (f:=mG l) l (fun a=>qM a) (by omega) (fun i hi u hu1 hu2=>?_) (fun u=>?_) (left:=left - (l.length:Int)) (by omega) (by omega)) fun r hr=>?_
 ·
  obtain ⟨v,v1,v2,v3⟩:=Rh l[i] (hw _ (List.getElem_mem hi)) hu1 hu2
  refine ⟨v,v2,v3,?_⟩
  unfold mG
  simp only
  rw [if_pos (by omega),eu hi,Option.bind_some,v1,Option.bind_some]
 ·unfold mG
  simp only
  rw [if_neg (by omega)]
 ·rcases hr with rfl | ⟨v,rfl,g1,g2,g3⟩
  ·exact Ev.ret ⟨by omega,.inl (by omega)⟩
  ·exact Ev.ret ⟨by omega,.inr ⟨by omega,g3⟩⟩
theorem PD (l:(List ai)) (h:(l.length≤1048576∧∀a∈l,qM a)):kz l=some l:=by
 have hl:=h.1
 unfold kz mkl
 rw [if_pos (by constructor<;>omega),Option.bind_some]
 rw [copyS (f:=mJ l) l _ (by simp) (by omega) ?_ ?_]
 ·rfl
 ·intro i hi out ho
  unfold mJ
  simp only
  rw [if_pos (by omega),eu hi,Option.bind_some,Ri l[i] (h.2 _ (List.getElem_mem hi)),Option.bind_some,eu (by omega:i<out.length),Option.bind_some]
  simp
 ·intro out
  unfold mJ
  simp
theorem PE (l:(List ai)) (h:(l.length≤1048576∧∀a∈l,qM a)):qI l l=some true:=by
 have hl:=h.1
 unfold qI
 rw [if_neg (by simp),Dl (n:=l.length) (by omega) ?_ ?_]
 ·rfl
 ·intro i hi
  unfold qi
  rw [if_pos (by omega),eu hi]
  simp only [Option.bind_some]
  rw [Rj l[i] (h.2 _ (List.getElem_mem hi))]
  rfl
 ·unfold qi
  rw [if_neg (by omega)]
theorem Ed (n a b:Int):di n a b=some (decide (a≤n∧n≤b)):=by
 unfold di
 rw [Bool.decide_and]
theorem ab1 (n a b:Int):fZ n a b=some (decide (a≤n∧n≤b)):=by
 unfold fZ
 rw [Bool.decide_and]
theorem VR (s:ByteArray) (i:Int):qF s i=kK s i:=by
 unfold qF kK
 by_cases c:i< (s.size:Int)
 ·rw [if_pos c,if_pos c]
  cases bt s i with
  | none=>rfl
  | some x=>
   have d1:decide (x≥97)=!decide (x<97):=by rw [←decide_not];exact decide_eq_decide.2 (by omega)
   have d2:decide (x≤122)=!decide (x>122):=by rw [←decide_not];exact decide_eq_decide.2 (by omega)
   have d3:decide (x≥48)=!decide (x<48):=by rw [←decide_not];exact decide_eq_decide.2 (by omega)
   have d4:decide (x≤57)=!decide (x>57):=by rw [←decide_not];exact decide_eq_decide.2 (by omega)
   simp only [Option.bind_some,ny,sN,d1,d2,d3,d4]
   by_cases c1:x<97<;>by_cases c2:x>122<;>by_cases c3:x<48<;>by_cases c4:x>57<;>simp [c1,c2,c3,c4]
 ·rw [if_neg c,if_neg c]
theorem abo (s:ByteArray):∃v,uU s=some v∧xx s=some v:=by
 unfold uU xx
 by_cases c0:s.size=0
 ·have hs:=VN c0
  refine ⟨false,?_,?_⟩
  ·rw [if_pos hs];rfl
  ·rw [if_pos (by omega)];rfl
 ·have hs:¬s=⟨#[]⟩:=fun h=>c0 (by rw [h];rfl)
  rw [if_neg hs,if_neg (show ¬((s.size:Int) <1) by omega)]
  by_cases c1:(s.size:Int) >10
  ·rw [if_pos c1,if_pos c1]
   exact ⟨false,rfl,rfl⟩
  ·rw [if_neg c1,if_neg c1]
   obtain ⟨b,hb,hb1,hb2⟩:=UM (s:=s) (i:=0) (by omega)
   have hb':bt s 0=some b:=hb
   rw [hb']
   have hloop:∃o,aG (kK s) 0=some o:=by
    refine QZ s.size (by omega) (fun i hi=>?_) ⟨.inl (),?_⟩
    ·obtain ⟨x,hx,_⟩:=UM (s:=s) hi
     unfold kK
     rw [if_pos (by omega),hx]
     simp only [Option.bind_some,ny,sN]
     split
     ·simp
     ·simp only [Option.bind_some]
      split
      ·exact .inr ⟨_,rfl⟩
      ·exact .inl rfl
    ·unfold kK
     rw [if_neg (by omega)]
   obtain ⟨o,ho⟩:=hloop
   have ho2:aG (qF s) 0=some o:=by rw [DW (VR s)];exact ho
   rw [ho,ho2]
   have e:(if b<97 then some true else some (decide (b>122)))=some (!(decide (b≥97)&&decide (b≤122))):=by
    have d1:decide (b≥97)=!decide (b<97):=by rw [←decide_not];exact decide_eq_decide.2 (by omega)
    have d2:decide (b≤122)=!decide (b>122):=by rw [←decide_not];exact decide_eq_decide.2 (by omega)
    rw [d1,d2]
    by_cases c2:b<97<;>by_cases c3:b>122<;>simp [c2,c3]
   simp only [Option.bind_some,ny]
   rw [e]
   simp only [Option.bind_some]
   split
   ·exact ⟨false,rfl,rfl⟩
   ·cases o with
    | inl u=>exact ⟨true,rfl,rfl⟩
    | inr r=>exact ⟨r,rfl,rfl⟩
theorem vin (n a b:Int):fZ n a b=di n a b:=rfl
theorem ab2 (a b c:af):kU a b c=nX a b c:=by
 unfold kU wE nX
 simp only [Option.bind_some]
theorem ahH (a b:Int):mM a b=some (min2 a b):=by
 unfold mM min2
 split<;>split<;>first | rfl | (congr 1;omega)
theorem ahI (a b:Int):kW a b=some (max2 a b):=by
 unfold kW max2
 split<;>split<;>first | rfl | (congr 1;omega)
theorem von (a b p:af):nC a b p=tu a b p:=by
 unfold nC tu
 simp only [ab2,ahH,ahI,vin,Option.bind_some]
theorem adD (a b c d:af):oU a b c d=nG a b c d:=by
 unfold oU nG
 simp only [ab2]
theorem afu (a b c d:af):uX a b c d=nH a b c d:=by
 unfold uX nH
 simp only [adD,von]
theorem DY (a b c:af):∃v,nX a b c=some v:=by
 unfold nX
 split
 ·exact ⟨_,rfl⟩
 ·split<;>exact ⟨_,rfl⟩
theorem IC (a b c:af):∃v,tu a b c=some v:=by
 obtain ⟨x,hx⟩:=DY a b c
 unfold tu di
 rw [hx]
 simp only [Option.bind_some]
 split
 ·split<;>exact ⟨_,rfl⟩
 ·exact ⟨_,rfl⟩
theorem VS (a b c d:af):∃v,nG a b c d=some v:=by
 obtain ⟨x,hx⟩:=DY a b c
 obtain ⟨y,hy⟩:=DY a b d
 obtain ⟨z,hz⟩:=DY c d a
 obtain ⟨w,hw⟩:=DY c d b
 unfold nG
 rw [hx,hy,hz,hw]
 simp only [Option.bind_some]
 split<;>exact ⟨_,rfl⟩
theorem VT (a b c d:af):∃v,nH a b c d=some v:=by
 obtain ⟨x,hx⟩:=VS a b c d
 obtain ⟨y,hy⟩:=IC a b c
 obtain ⟨z,hz⟩:=IC a b d
 obtain ⟨w,hw⟩:=IC c d a
 obtain ⟨u,hu⟩:=IC c d b
 unfold nH
 rw [hx,hy,hz,hw,hu]
 simp only [Option.bind_some]
 cases x<;>cases y<;>cases z<;>cases w<;>exact ⟨_,rfl⟩
theorem LP {k n:Nat} (hn:0<n):md (k:Int) (n:Int)=some ((k % n:Nat):Int):=by
 unfold md
 rw [if_neg (by omega),Int.tmod_eq_emod_of_nonneg (by omega)]
 rfl
theorem PG {α:Type} {p:List α} {k:Nat} (hp:0<p.length):∃x,rd p ((k % p.length:Nat):Int)=some x:=⟨_,eu (Nat.mod_lt _ hp)⟩
theorem afv (p:List af):uY p=oN p:=by
 unfold uY oN
 congr 1
 refine DW (fun s=>?_) _
 obtain ⟨a,i⟩:=s
 unfold xO pF
 simp only
 split
 ·cases h1:rd p i<;>cases h2:md (w64 (i+1)) (p.length:Int)<;>simp only [Option.bind_some,Option.bind_none]
  rename_i x y
  cases rd p y<;>rfl
 ·rfl
theorem Yb (p:List af) (hp:p.length≤1048576):∃v,oN p=some v:=by
 have:Ev (aG (pF p) (0,0)) (fun _=>True):=by
  refine Ev.loop (fun s:Int×Int=>0≤s.2∧s.2≤(p.length:Int)) (fun s:Int×Int=>((p.length:Int) - s.2).toNat) ?_ ⟨Int.le_refl _,by simp only;omega⟩
  rintro ⟨a,i⟩ ⟨i0,i1⟩
  unfold pF
  simp only at i0 i1 ⊢
  refine Ev.ite (fun hc=>?_) fun _=>Ev.ret trivial
  obtain ⟨j,rfl⟩:∃j:Nat,i=(j:Int):=⟨i.toNat,by omega⟩
  refine Ev.bind (Ev.rd i0 hc) fun x _=>?_
  rw [bU (by omega),LP (by omega)]
  obtain ⟨y,hy⟩:=PG (p:=p) (k:=j+1) (by omega)
  simp only [Option.bind_some,hy]
  exact Ev.ret ⟨⟨by simp only;omega,by simp only;omega⟩,by simp only;omega⟩
 obtain ⟨v,hv,_⟩:=this
 unfold oN
 rw [hv]
 exact ⟨_,rfl⟩
theorem adE (p:af):∃v,pz p=some v:=by
 unfold pz di
 simp only [Option.bind_some]
 split<;>exact ⟨_,rfl⟩
theorem adF (p:List af) (hp:p.length≤1048576):aG (gU p) 0=some (.inl ())∨aG (gU p) 0=some (.inr false):=by
 rcases adC (f:=gU p) p (fun _=>True) (by omega) (fun i hi=>by
  unfold gU
  rw [if_pos (by omega),eu hi,Option.bind_some]
  obtain ⟨v,hv⟩:=adE p[i]
  rw [hv,Option.bind_some]
  cases v
  ·exact .inr rfl
  ·exact .inl ⟨rfl,trivial⟩) (by unfold gU;rw [if_neg (by omega)]) with ⟨h,_⟩ | h
 ·exact .inl h
 ·exact .inr h
theorem afw (p:List af) (i:Int) (x y:af):uZ i p x y=gW p i x y:=by
 funext k
 unfold uZ gW
 simp only [afu]
theorem abp (p:List af):ve p=iE p:=by
 funext i
 unfold ve iE
 simp only [von,afw]
theorem ahJ (p:List af):zM p=gU p:=rfl
theorem Yc (p:List af) (hp:p.length≤1048576) (i:Int) (x y:af) {k:Int} (hk:0≤k):∃o,aG (gW p i x y) k=some o:=by
 have:Ev (aG (gW p i x y) k) (fun _=>True):=by
  refine Ev.loop (fun s=>0≤s) (fun s=>((p.length:Int) - s).toNat) ?_ hk
  intro s h0
  unfold gW
  refine Ev.ite (fun hc=>?_) fun _=>Ev.ret trivial
  obtain ⟨j,rfl⟩:∃j:Nat,s=(j:Int):=⟨s.toNat,by omega⟩
  rw [bU (by omega),LP (by omega)]
  obtain ⟨y2,hy⟩:=PG (p:=p) (k:=j+1) (by omega)
  simp only [Option.bind_some,hy,eu (show j<p.length by omega)]
  obtain ⟨v,hv⟩:=VT x y p[j] y2
  rw [hv]
  simp only [Option.bind_some]
  refine Ev.bind (P:=fun _=>True) (Ev.ite (fun _=>Ev.ret trivial) fun _=>Ev.ret trivial) fun t _=>?_
  exact Ev.ite (fun _=>Ev.ret trivial) fun _=>Ev.ret ⟨by omega,by omega⟩
 obtain ⟨v,hv,_⟩:=this
 exact ⟨v,hv⟩
theorem TL (p:List af) (hp:p.length≤1048576):∃o,aG (iE p) 0=some o:=by
 refine QZ p.length (by omega) (fun i hi=>?_) ⟨_,by unfold iE;rw [if_neg (by omega)]⟩
 unfold iE
 obtain ⟨y,hy⟩:=PG (p:=p) (k:=i+1) (by omega)
 obtain ⟨z,hz⟩:=PG (p:=p) (k:=i+2) (by omega)
 have e2:w64 ((i:Int)+2)=((i+2:Nat):Int):=by rw [fH (by omega) (by omega)];omega
 rw [if_pos (by omega),bU (by omega),e2,LP (by omega),LP (by omega),eu hi]
 simp only [Option.bind_some,hy,hz]
 obtain ⟨u,hu⟩:=IC p[i] y z
 obtain ⟨v,hv⟩:=IC y z p[i]
 obtain ⟨o,ho⟩:=Yc p hp (i:Int) p[i] y (k:=((i+2:Nat):Int)) (by omega)
 rw [hu,hv,ho]
 simp only [Option.bind_some]
 have fin:∀t:Bool,(if t=true then (some (.inr (.inr false)):Option (Int ⊕ (Unit ⊕ Bool))) else (match (generalizing:=false) o with | .inl _=>some (.inl ((i+1:Nat):Int)) | .inr r2=>some (.inr (.inr r2))))=some (.inl (((i+1:Nat):Int)))∨∃r,(if t=true then (some (.inr (.inr false)):Option (Int ⊕ (Unit ⊕ Bool))) else (match (generalizing:=false) o with | .inl _=>some (.inl ((i+1:Nat):Int)) | .inr r2=>some (.inr (.inr r2))))=some (.inr r):=by
  intro t
  cases t
  ·cases o
   ·exact .inl rfl
   ·exact .inr ⟨_,rfl⟩
  ·exact .inr ⟨_,rfl⟩
 split
 ·exact fin true
 ·cases u
  ·exact fin v
  ·exact fin true
theorem abq (p:List af) (hp:p.length≤1048576):∃v,yG p=some v∧mQ p=some v:=by
 unfold yG mQ qX
 simp only [ahJ,abp,afv]
 by_cases c1:(p.length:Int) <3
 ·rw [if_pos (.inl c1),if_pos c1]
  exact ⟨_,rfl,rfl⟩
 by_cases c2:(p.length:Int) >24
 ·rw [if_pos (.inr c2),if_neg c1,if_pos c2]
  exact ⟨_,rfl,rfl⟩
 rw [if_neg (fun h=>h.elim c1 c2),if_neg c1,if_neg c2]
 obtain ⟨o,ho⟩:=TL p hp
 obtain ⟨a,ha⟩:=Yb p hp
 rw [ho,ha]
 rcases adF p hp with h | h<;>rw [h]
 ·cases o<;>exact ⟨_,rfl,rfl⟩
 ·exact ⟨_,rfl,rfl⟩
theorem NR {f g:Int→Option (Int ⊕ (Unit ⊕ Bool))} {n:Nat} (hn:n≤1048576)
 (h:∀i:Nat,i<n→∃w:Bool,f (i:Int)=(if w=true then some (.inl (((i+1:Nat):Int))) else some (.inr (.inr false)))∧g (i:Int)=(if w=true then some (.inl (((i+1:Nat):Int))) else some (.inr (.inr false))))
 (hf:f (n:Int)=some (.inr (.inl ()))) (hg:g (n:Int)=some (.inr (.inl ()))):∃o,aG f 0=some o∧aG g 0=some o∧(o= .inl ()∨o= .inr false):=by
 have key:∀(m i:Nat),i+m=n→∃o,aG f (i:Int)=some o∧aG g (i:Int)=some o∧(o= .inl ()∨o= .inr false):=by
  intro m
  induction m with
  | zero=>
   intro i hi
   obtain rfl:i=n:=by omega
   exact ⟨_,aN hf,aN hg,.inl rfl⟩
  | succ m ih=>
   intro i hi
   obtain ⟨w,w1,w2⟩:=h i (by omega)
   cases w with
   | true=>
    rw [if_pos rfl] at w1 w2
    rw [bT w1,bT w2]
    exact ih (i+1) (by omega)
   | false=>exact ⟨_,aN w1,aN w2,.inr rfl⟩
 exact key n 0 (by omega)
theorem afx (d:aA) (ring:List Int):uV d ring=jL d.bn ring:=by
 unfold uV jL
 congr 1
 refine DW (fun s=>?_) _
 obtain ⟨i,out⟩:=s
 unfold xN nM
 simp only [vin]
 split
 ·cases rd ring i with
  | none=>rfl
  | some x=>rfl
 ·rfl
theorem abr (pts:List af) (ring:List Int) (hp:pts.length≤1048576) (hr:ring.length≤1048576):Ev (jL pts ring) (fun r=>r.1.length≤1048576):=by
 unfold jL
 refine Ev.bind (P:=fun o=>match o with | .inl l=>l.length≤1048576 | .inr r=>r.1.length≤1048576) (Ev.loop (fun s:Int×List af=>0≤s.1∧s.1≤(ring.length:Int)∧(s.2.length:Int)≤s.1) (fun s:Int×List af=>((ring.length:Int) - s.1).toNat) ?_ ⟨Int.le_refl _,by simp only;omega,by simp⟩) fun o ho=>?_
 ·rintro ⟨i,out⟩ ⟨i0,i1,i2⟩
  unfold nM di
  simp only at i0 i1 i2 ⊢
  refine Ev.ite (fun hc=>?_) fun _=>Ev.ret (by simp only;omega)
  refine Ev.bind (Ev.rd i0 hc) fun x _=>?_
  simp only [Option.bind_some,Bool.and_eq_true,decide_eq_true_eq]
  refine Ev.ite (fun hx=>?_) fun _=>Ev.ret (by simp)
  have e:w64 ((pts.length:Int) - 1)=(pts.length:Int) - 1:=fH (by omega) (by omega)
  rw [e] at hx
  refine Ev.bind (Ev.rd hx.1 (by omega)) fun y _=>?_
  refine Ev.bind (Ev.apd (by simp;omega)) fun l hl=>?_
  subst hl
  rw [fH (n:=i+1) (by omega) (by omega)]
  exact Ev.ret ⟨⟨by simp only;omega,by simp only;omega,by simp only [List.length_append,List.length_singleton];omega⟩,by simp only;omega⟩
 ·cases o with
  | inl l=>exact Ev.ret ho
  | inr r=>exact Ev.ret ho
theorem ahK (d:aA) {i:Nat} (hi:i<d.bn.length) (hp:d.bn.length≤1048576):
 ∃b:Bool,aG (kE d (i:Int)) 0=some (if b=true then .inr false else .inl ())∧dK (d.bn.take i) d.bn[i]=some b:=by
 have hl:(d.bn.take i).length=i:=by rw [List.length_take];omega
 have e1:=xH (f:=kE d (i:Int)) (d.bn.take i) (fun x=>decide (d.bn[i].X=x.X∧d.bn[i].Y=x.Y)) (fun _=>false) (by omega) (fun k hk=>by
  unfold kE
  rw [if_pos (by omega),eu hi,Option.bind_some,eu (show k<d.bn.length by omega),Option.bind_some,List.getElem_take]
  by_cases c:d.bn[i].X=(d.bn[k]'(by omega)).X∧d.bn[i].Y=(d.bn[k]'(by omega)).Y
  ·rw [if_pos c,if_pos (decide_eq_true c)]
  ·rw [if_neg c,if_neg (by simpa using c)]) (by unfold kE;rw [if_neg (by omega)])
 have e2:=xH (f:=dJ (d.bn.take i) d.bn[i]) (d.bn.take i) (fun x=>decide (d.bn[i].X=x.X∧d.bn[i].Y=x.Y)) (fun k=>(k:Int)) (by omega) (fun k hk=>by
  unfold dJ
  rw [if_pos (by omega),eu hk,Option.bind_some]
  by_cases c:d.bn[i].X=(d.bn.take i)[k].X∧d.bn[i].Y=(d.bn.take i)[k].Y
  ·rw [if_pos c,if_pos (decide_eq_true c)]
  ·rw [if_neg c,if_neg (by simpa using c)]) (by unfold dJ;rw [if_neg (by omega)])
 unfold dK gz
 rcases e1 with ⟨a1,a2⟩ | ⟨k,hk,a1,_,a2⟩<;>rcases e2 with ⟨b1,b2⟩ | ⟨m,hm,b1,_,b2⟩
 ·exact ⟨false,by rw [a2];rfl,by rw [b2];rfl⟩
 ·have:=a1 _ (List.getElem_mem hm)
  rw [b1] at this
  cases this
 ·have:=b1 _ (List.getElem_mem hk)
  rw [a1] at this
  cases this
 ·refine ⟨true,by rw [a2];rfl,?_⟩
  rw [b2]
  show some (decide ((m:Int)≥0))=_
  rw [decide_eq_true (by omega)]
theorem Yd (d:aA) (hp:d.bn.length≤1048576) {i:Nat} (hi:i<d.bn.length):
 ∃w:Bool,kF d (i:Int)=(if w=true then some (.inl (((i+1:Nat):Int))) else some (.inr (.inr false)))∧jf d (i:Int)=(if w=true then some (.inl (((i+1:Nat):Int))) else some (.inr (.inr false))):=by
 obtain ⟨b,b1,b2⟩:=ahK d hi hp
 have hs:slc d.bn 0 (i:Int)=some (d.bn.take i):=by
  unfold slc
  rw [if_pos ⟨by omega,by omega,by omega⟩]
  simp
 unfold kF jf di fZ
 rw [if_pos (by omega),if_pos (by omega),eu hi,b1,hs,bU (by omega)]
 simp only [Option.bind_some,b2]
 cases (decide (d.bn[i].X≥0)&&decide (d.bn[i].X≤d.Width)) with
 | false=>exact ⟨false,rfl,rfl⟩
 | true=>
  cases (decide (d.bn[i].Y≥0)&&decide (d.bn[i].Y≤d.Height)) with
  | false=>exact ⟨false,rfl,rfl⟩
  | true=>
   cases b with
   | true=>exact ⟨false,rfl,rfl⟩
   | false=>exact ⟨true,rfl,rfl⟩
theorem VU (d:aA) (hb:jU d) {i:Nat} (hi:i<d.aB.length):
 ∃w:Bool,pU d (i:Int)=(if w=true then some (.inl (((i+1:Nat):Int))) else some (.inr (.inr false)))∧iV d (i:Int)=(if w=true then some (.inl (((i+1:Nat):Int))) else some (.inr (.inr false))):=by
 obtain ⟨_,_,⟨hp,_⟩,⟨hf,hF⟩⟩:=hb
 obtain ⟨n,n1,n2⟩:=abo (d.aB[i]).Name
 obtain ⟨r,r1,r2⟩:=abr d.bn (d.aB[i]).Ring hp (hF _ (List.getElem_mem hi)).2.1
 obtain ⟨q,q1,q2⟩:=abq r.1 r2
 have hc:(i:Int) < (d.aB.length:Int):=by omega
 unfold pU iV
 rw [if_pos hc,if_pos hc,eu hi,bU (by omega)]
 simp only [Option.bind_some,afx,r1,q1,q2,n1,n2]
 have tail:∀t:Bool,∃w:Bool,(if t=true then (some (.inr (.inr false)):Option (Int ⊕ (Unit ⊕ Bool))) else (if r.2=true then some (!q) else some true).bind fun Gp=>if Gp=true then some (.inr (.inr false)) else some (.inl ((i+1:Nat):Int)))=(if w=true then some (.inl (((i+1:Nat):Int))) else some (.inr (.inr false))):=by
  intro t
  cases t
  ·cases r.2
   ·exact ⟨false,rfl⟩
   ·cases q
    ·exact ⟨false,rfl⟩
    ·exact ⟨true,rfl⟩
  ·exact ⟨false,rfl⟩
 cases n with
 | false=>exact ⟨false,rfl,rfl⟩
 | true=>
  by_cases c:(i:Int) >0
  ·simp only [if_pos c,if_true]
   rw [X8 (by omega) (by omega),eu (show i - 1<d.aB.length by omega)]
   simp only [Option.bind_some]
   obtain ⟨w,hw⟩:=tail (!Op.bytesLess (d.aB[i - 1]'(by omega)).Name.toList (d.aB[i]).Name.toList)
   exact ⟨w,hw,hw⟩
  ·simp only [if_neg c,if_true,Option.bind_some]
   obtain ⟨w,hw⟩:=tail false
   exact ⟨w,hw,hw⟩
theorem abt (d:aA) (hb:jU d):∃v,yH d=some v∧mV d=some v:=by
 obtain ⟨_,_,⟨hp,_⟩,⟨hf,_⟩⟩:=id hb
 obtain ⟨o1,p1,p2,p3⟩:=NR (f:=kF d) (g:=jf d) hp (fun i hi=>Yd d hp hi) (by unfold kF;rw [if_neg (by omega)]) (by unfold jf;rw [if_neg (by omega)])
 obtain ⟨o2,f1,f2,f3⟩:=NR (f:=pU d) (g:=iV d) hf (fun i hi=>VU d hb hi) (by unfold pU;rw [if_neg (by omega)]) (by unfold iV;rw [if_neg (by omega)])
 unfold yH mV uT
 rw [p1,p2,f1,f2]
 simp only [vin,di,Option.bind_some]
 cases (decide (d.Width≥10)&&decide (d.Width≤20000)) with
 | false=>exact ⟨false,rfl,rfl⟩
 | true=>
  cases (decide (d.Height≥10)&&decide (d.Height≤20000)) with
  | false=>exact ⟨false,rfl,rfl⟩
  | true=>
   by_cases c1:(d.bn.length:Int) >48
   ·simp only [if_pos c1]
    exact ⟨false,rfl,rfl⟩
   ·simp only [if_neg c1]
    cases decide ((d.aB.length:Int) >24) with
    | true=>rcases p3 with rfl | rfl<;>exact ⟨false,rfl,rfl⟩
    | false=>rcases p3 with rfl | rfl<;>rcases f3 with rfl | rfl<;>exact ⟨_,rfl,rfl⟩
theorem Ye {α:Type} {f:Int→Option (Int ⊕ (Unit ⊕ Bool))} (l:List α) (V:α→Bool) (hl:l.length≤1048576)
 (h1:∀(i:Nat) (hi:i<l.length),f (i:Int)=if V l[i]=true then some (.inl (w64 ((i:Int)+1))) else some (.inr (.inr false))) (h2:f (l.length:Int)=some (.inr (.inl ()))):
 aG f 0=some (if l.all V=true then .inl () else .inr false):=by
 rcases xH (ρ:=Bool) l (fun x=>!V x) (fun _=>false) (by omega) (fun i hi=>by rw [h1 i hi];cases V l[i]<;>rfl) h2 with ⟨a,b⟩ | ⟨i,hi,a,_,b⟩
 ·rw [b,if_pos (List.all_eq_true.2 fun x hx=>by simpa using a x hx)]
 ·have:¬l.all V=true:=fun h=>by
   have e:=List.all_eq_true.1 h _ (List.getElem_mem hi)
   rw [e] at a
   cases a
  rw [b,if_neg this]
theorem VV {α:Type} {f:Int→Option (Int ⊕ (Unit ⊕ Int))} (l:List α) (V:α→Bool) (hl:l.length≤1048576)
 (h1:∀(i:Nat) (hi:i<l.length),f (i:Int)=if (!V l[i])=true then some (.inr (.inr (i:Int))) else some (.inl (w64 ((i:Int)+1)))) (h2:f (l.length:Int)=some (.inr (.inl ()))):
 (l.all V=true∧aG f 0=some (.inl ()))∨(l.all V=false∧∃k:Nat,aG f 0=some (.inr (k:Int))):=by
 rcases xH l (fun x=>!V x) (fun k=>(k:Int)) (by omega) h1 h2 with ⟨a,b⟩ | ⟨i,hi,a,_,b⟩
 ·exact .inl ⟨List.all_eq_true.2 fun x hx=>by simpa using a x hx,b⟩
 ·refine .inr ⟨?_,i,b⟩
  rw [List.all_eq_false]
  exact ⟨_,List.getElem_mem hi,by simpa using a⟩
def nms:List ByteArray:=[⟨#[97,115,104]⟩,⟨#[98,101,101,99,104]⟩,⟨#[98,105,114,99,104]⟩,⟨#[99,104,101,114,114,121]⟩,⟨#[101,98,111,110,121]⟩,⟨#[104,111,108,108,121]⟩,⟨#[109,97,112,108,101]⟩,⟨#[111,97,107]⟩,⟨#[114,111,115,101,119,111,111,100]⟩,⟨#[119,97,108,110,117,116]⟩]
theorem eY {a b:Array UInt8} (h:a.toList≠b.toList):¬(⟨a⟩:ByteArray)=⟨b⟩:=fun e=>h (by injection e with e;rw [e])
theorem abu (s:ByteArray):(qV s=some (-1)∧iQ s=some (0,false))∨
 ∃(k:Nat) (b:Int) (tb:List (List Int)) (row:List Int),qV s=some (k:Int)∧wG=some tb∧rd tb (k:Int)=some row∧rd row 0=some b∧0≤b∧b≤100∧iQ s=some (b,true):=by
 have hN:wF=some nms:=rfl
 unfold qV
 rw [hN,Option.bind_some]
 rcases xH (f:=oV s nms) nms (fun x=>decide (x=s)) (fun k=>(k:Int)) (by decide) (fun i hi=>by
  unfold oV
  rw [if_pos (by omega),eu hi,Option.bind_some]
  by_cases c:nms[i]=s
  ·rw [if_pos c,if_pos (decide_eq_true c)]
  ·rw [if_neg c,if_neg (by simpa using c)]) (by unfold oV;rw [if_neg (by omega)]) with ⟨a,b⟩ | ⟨k,hk,a,_,b⟩
 ·left
  rw [b]
  refine ⟨rfl,?_⟩
  have hn:∀x∈nms,¬s=x:=fun x hx e=>by
   have:=a x hx
   rw [e] at this
   simp at this
  simp only [nms,List.mem_cons,forall_eq_or_imp,List.not_mem_nil,false_implies,implies_true,and_true] at hn
  obtain ⟨h1,h2,h3,h4,h5,h6,h7,h8,h9,h10⟩:=hn
  unfold iQ nY
  rw [if_neg h1,if_neg h2,if_neg h3,if_neg h4,if_neg h5,if_neg h6,if_neg h7,if_neg h8,if_neg h9,if_neg h10]
  rfl
 ·right
  rw [b]
  have hs:nms[k]=s:=by simpa using a
  have hk':k<10:=hk
  unfold iQ nY
  have hc:k=0∨k=1∨k=2∨k=3∨k=4∨k=5∨k=6∨k=7∨k=8∨k=9:=by omega
  rcases hc with rfl | rfl | rfl | rfl | rfl | rfl | rfl | rfl | rfl | rfl
  ·rw [←hs];exact ⟨0,20,_,_,rfl,rfl,rfl,rfl,by decide,by decide,by rw [show nms[0]=(⟨#[97,115,104]⟩:ByteArray) from rfl,if_pos rfl];rfl⟩
  ·rw [←hs];exact ⟨1,35,_,_,rfl,rfl,rfl,rfl,by decide,by decide,by rw [show nms[1]=(⟨#[98,101,101,99,104]⟩:ByteArray) from rfl,if_neg (eY (by decide)),if_pos rfl];rfl⟩
  ·rw [←hs];exact ⟨2,15,_,_,rfl,rfl,rfl,rfl,by decide,by decide,by rw [show nms[2]=(⟨#[98,105,114,99,104]⟩:ByteArray) from rfl,if_neg (eY (by decide)),if_neg (eY (by decide)),if_pos rfl];rfl⟩
  ·rw [←hs];exact ⟨3,50,_,_,rfl,rfl,rfl,rfl,by decide,by decide,by rw [show nms[3]=(⟨#[99,104,101,114,114,121]⟩:ByteArray) from rfl,if_neg (eY (by decide)),if_neg (eY (by decide)),if_neg (eY (by decide)),if_pos rfl];rfl⟩
  ·rw [←hs];exact ⟨4,95,_,_,rfl,rfl,rfl,rfl,by decide,by decide,by rw [show nms[4]=(⟨#[101,98,111,110,121]⟩:ByteArray) from rfl,if_neg (eY (by decide)),if_neg (eY (by decide)),if_neg (eY (by decide)),if_neg (eY (by decide)),if_pos rfl];rfl⟩
  ·rw [←hs];exact ⟨5,5,_,_,rfl,rfl,rfl,rfl,by decide,by decide,by rw [show nms[5]=(⟨#[104,111,108,108,121]⟩:ByteArray) from rfl,if_neg (eY (by decide)),if_neg (eY (by decide)),if_neg (eY (by decide)),if_neg (eY (by decide)),if_neg (eY (by decide)),if_pos rfl];rfl⟩
  ·rw [←hs];exact ⟨6,10,_,_,rfl,rfl,rfl,rfl,by decide,by decide,by rw [show nms[6]=(⟨#[109,97,112,108,101]⟩:ByteArray) from rfl,if_neg (eY (by decide)),if_neg (eY (by decide)),if_neg (eY (by decide)),if_neg (eY (by decide)),if_neg (eY (by decide)),if_neg (eY (by decide)),if_pos rfl];rfl⟩
  ·rw [←hs];exact ⟨7,40,_,_,rfl,rfl,rfl,rfl,by decide,by decide,by rw [show nms[7]=(⟨#[111,97,107]⟩:ByteArray) from rfl,if_neg (eY (by decide)),if_neg (eY (by decide)),if_neg (eY (by decide)),if_neg (eY (by decide)),if_neg (eY (by decide)),if_neg (eY (by decide)),if_neg (eY (by decide)),if_pos rfl];rfl⟩
  ·rw [←hs];exact ⟨8,80,_,_,rfl,rfl,rfl,rfl,by decide,by decide,by rw [show nms[8]=(⟨#[114,111,115,101,119,111,111,100]⟩:ByteArray) from rfl,if_neg (eY (by decide)),if_neg (eY (by decide)),if_neg (eY (by decide)),if_neg (eY (by decide)),if_neg (eY (by decide)),if_neg (eY (by decide)),if_neg (eY (by decide)),if_neg (eY (by decide)),if_pos rfl];rfl⟩
  ·rw [←hs];exact ⟨9,70,_,_,rfl,rfl,rfl,rfl,by decide,by decide,by rw [show nms[9]=(⟨#[119,97,108,110,117,116]⟩:ByteArray) from rfl,if_neg (eY (by decide)),if_neg (eY (by decide)),if_neg (eY (by decide)),if_neg (eY (by decide)),if_neg (eY (by decide)),if_neg (eY (by decide)),if_neg (eY (by decide)),if_neg (eY (by decide)),if_neg (eY (by decide)),if_pos rfl];rfl⟩
theorem Yf (x:ai):∃v,ug x=some v∧jM x=some v:=by
 unfold ug jM
 rcases abu x.jo with ⟨h1,h2⟩ | ⟨k,b,tb,row,h1,h2,h3,h4,h5,h6,h7⟩
 ·rw [h1,h2];exact ⟨false,rfl,rfl⟩
 ·rw [h1,h7,h2]
  simp only [Option.bind_some,h3,h4,ab1,Ed,if_true,wH]
  rw [if_neg (show ¬(k:Int) <0 by omega),fH (n:=b - 15) (by omega) (by omega),fH (n:=b+15) (by omega) (by omega)]
  by_cases c:0≤x.dV∧x.dV≤100
  ·rw [fH (n:=x.dV - b) (by omega) (by omega),decide_eq_true c]
   have e:decide (b - 15≤x.dV∧x.dV≤b+15)=decide (-15≤x.dV - b∧x.dV - b≤15):=decide_eq_decide.2 ⟨fun h=>by omega,fun h=>by omega⟩
   rw [e]
   cases decide (-15≤x.dV - b∧x.dV - b≤15)<;>exact ⟨_,rfl,rfl⟩
  ·rw [decide_eq_false c]
   exact ⟨false,rfl,rfl⟩
noncomputable def LQ (x:ai):Bool:=(ug x).getD false
theorem afy (x:ai):ug x=some (LQ x):=by
 obtain ⟨v,h,_⟩:=Yf x
 unfold LQ
 rw [h];rfl
theorem ab3 (x:ai):jM x=some (LQ x):=by
 obtain ⟨v,h,h2⟩:=Yf x
 unfold LQ
 rw [h,h2];rfl
theorem adG (l:List ai) (hl:l.length≤1048576):mW l=some (l.all LQ):=by
 unfold mW dL eF
 rcases VV (f:=cO (fun a0=>iF a0) l) l LQ hl (fun i hi=>by
  unfold cO iF
  rw [if_pos (by omega),eu hi,Option.bind_some]
  simp only [ab3,Option.bind_some]) (by unfold cO;rw [if_neg (by omega)]) with ⟨a,b⟩ | ⟨a,k,b⟩
 ·rw [b,a];rfl
 ·rw [b,a]
  show some (!decide ((k:Int)≥0))=_
  rw [decide_eq_true (by omega)]
  rfl
def er {α:Type} (R:List α):List (α×α):=R.zip (R.drop 1++R.take 1)
theorem wz {α:Type} (R:List α):(er R).length=R.length:=by
 unfold er
 rw [List.length_zip,List.length_append,List.length_drop,List.length_take]
 omega
theorem adH {α:Type} {R:List α} {j:Nat} (h:j<R.length):∃h2:(j+1) % R.length<R.length,(er R)[j]'(by rw [wz];exact h)=(R[j],R[(j+1) % R.length]):=by
 have h2:(j+1) % R.length<R.length:=Nat.mod_lt _ (by omega)
 refine ⟨h2,?_⟩
 unfold er
 rw [List.getElem_zip]
 congr 1
 by_cases c:j+1<R.length
 ·rw [List.getElem_append_left (by rw [List.length_drop];omega),List.getElem_drop]
  congr 1
  rw [Nat.mod_eq_of_lt c];omega
 ·have e:j+1=R.length:=by omega
  rw [List.getElem_append_right (by rw [List.length_drop];omega),List.getElem_take]
  congr 1
  rw [List.length_drop,e,Nat.mod_self];omega
theorem Yg {α:Type} {R:List α} (hR:R.length≤1048576) {j:Nat} (h:j<R.length):rd R (j:Int)=some ((er R)[j]'(by rw [wz];exact h)).1∧md (w64 ((j:Int)+1)) (R.length:Int)=some (((j+1) % R.length:Nat):Int)∧rd R (((j+1) % R.length:Nat):Int)=some ((er R)[j]'(by rw [wz];exact h)).2:=by
 obtain ⟨h2,h3⟩:=adH h
 rw [h3]
 exact ⟨eu h,by rw [bU (by omega)];exact LP (by omega),eu h2⟩
theorem Yh {α:Type} {l:List α} {p:α→Bool} {i:Nat} (h:i<l.length):(l.take (i+1)).any p=((l.take i).any p||p l[i]):=by
 rw [List.take_succ_eq_append_getElem h,List.any_append,List.any_cons,List.any_nil,Bool.or_false]
def he (p q:Int×Int):Bool:=decide (q.1=p.1∧q.2=p.2∨q.1=p.2∧q.2=p.1)
theorem TM (S:List Int) (hS:S.length≤1048576) (p:Int×Int):oZ S p.1 p.2=some ((er S).any (he p)):=by
 obtain ⟨a,b⟩:=p
 unfold oZ
 rcases xH (f:=lM a b S) (er S) (he (a,b)) (fun _=>true) (by rw [wz];omega) (fun i hi=>by
  rw [wz] at hi
  obtain ⟨e1,e2,e3⟩:=Yg hS hi
  unfold lM
  rw [if_pos (by omega),e1,Option.bind_some,e2,Option.bind_some,e3,Option.bind_some]
  generalize (er S)[i]'(by rw [wz];exact hi)=q
  obtain ⟨c,d⟩:=q
  unfold he
  by_cases c1:c=a<;>by_cases c2:d=b<;>by_cases c3:c=b<;>by_cases c4:d=a<;>simp_all) (by unfold lM;rw [wz,if_neg (by omega)]) with ⟨h1,h2⟩ | ⟨i,hi,h1,_,h2⟩
 ·rw [h2,List.any_eq_false.2 fun x hx=>by simpa using h1 x hx]
  rfl
 ·rw [h2,List.any_eq_true.2 ⟨_,List.getElem_mem hi,h1⟩]
  rfl
def fc (R S:List Int):Bool:=(er R).any fun p=>(er S).any (he p)
def rg (d:aA) (k:Nat):List Int:=match d.aB[k]? with | some f=>f.Ring | none=>[]
def jk (d:aA) (k n:Nat):List Int:=((List.range n).filter fun m=>decide (m≠k)&&fc (rg d k) (rg d m)).map fun m:Nat=>(m:Int)
theorem Yi {d:aA} {k:Nat} (h:k<d.aB.length):rg d k=d.aB[k].Ring:=by
 unfold rg
 rw [List.getElem?_eq_getElem h]
theorem LU (d:aA) (k n:Nat):jk d k (n+1)=if n≠k∧fc (rg d k) (rg d n)=true then jk d k n++[(n:Int)] else jk d k n:=by
 unfold jk
 rw [List.range_succ,List.filter_append,List.map_append]
 by_cases c:n≠k∧fc (rg d k) (rg d n)=true
 ·rw [if_pos c,List.filter_cons_of_pos (by simp [c.1,c.2])];rfl
 ·rw [if_neg c,List.filter_cons_of_neg (by simpa using c),List.filter_nil,List.map_nil,List.append_nil]
theorem Ee (d:aA) (k n:Nat):(jk d k n).length≤n:=by
 unfold jk
 rw [List.length_map]
 exact Nat.le_trans (List.length_filter_le _ (List.range n)) (Nat.le_of_eq List.length_range)
theorem NS {d:aA} {k n:Nat} {x:Int} (h:x∈jk d k n):0≤x∧x<n:=by
 unfold jk at h
 obtain ⟨m,hm,rfl⟩:=List.mem_map.1 h
 have:=List.mem_range.1 (List.mem_filter.1 hm).1
 omega
def bR (d:aA):Prop:=d.aB.length≤1048576∧∀f∈d.aB,f.Ring.length≤1048576
theorem ab4 {d:aA} (h:bR d) (k:Nat):(rg d k).length≤1048576:=by
 unfold rg
 cases e:d.aB[k]? with
 | none=>simp
 | some f=>exact h.2 f (List.mem_of_getElem? e)
theorem VW {d:aA} (hb:bR d) {k:Nat} (hk:k<d.aB.length):vg d (k:Int)=some (jk d k d.aB.length):=by
 unfold vg
 have hF:=hb.1
 rw [eu hk,Option.bind_some]
 have hR:(d.aB[k]).Ring.length≤1048576:=hb.2 _ (List.getElem_mem hk)
 have inner:∀f:Nat,(hf:f<d.aB.length)→aG (o6 d (f:Int) d.aB[k]) (false,0)=some (fc (rg d k) (rg d f)):=by
  intro f hf
  have hS:(d.aB[f]).Ring.length≤1048576:=hb.2 _ (List.getElem_mem hf)
  rw [Yi hk,Yi hf]
  refine jw (fun j:Nat=>(((er (d.aB[k]).Ring).take j).any fun p=>(er (d.aB[f]).Ring).any (he p),(j:Int))) (d.aB[k]).Ring.length (fun j hj=>?_) ?_
  ·obtain ⟨e1,e2,e3⟩:=Yg hR hj
   unfold o6
   simp only
   rw [if_pos (by omega),Yh (by rw [wz];exact hj),e1,e2,eu hf,bU (by omega)]
   simp only [Option.bind_some]
   rw [e3]
   simp only [Option.bind_some,TM _ hS]
   cases ((er (d.aB[k]).Ring).take j).any fun p=>(er (d.aB[f]).Ring).any (he p)<;>rfl
  ·unfold o6
   simp only
   rw [if_neg (by omega),List.take_of_length_le (by rw [wz];exact Nat.le_refl _)]
   rfl
 have e:aG (o7 d (k:Int) d.aB[k]) (0,[])=some (jk d k d.aB.length):=by
  refine jw (fun f:Nat=>((f:Int),jk d k f)) d.aB.length (fun f hf=>?_) ?_
  ·have hl:=Ee d k f
   unfold o7
   simp only
   rw [if_pos (by omega),inner f hf,Option.bind_some,LU]
   unfold o5
   rw [bU (by omega)]
   by_cases c:f≠k∧fc (rg d k) (rg d f)=true
   ·rw [if_pos c,if_pos ⟨by omega,c.2⟩,yx (by simp only [List.length_singleton];omega)];rfl
   ·rw [if_neg c,if_neg (fun h=>c ⟨by omega,h.2⟩)]
  ·unfold o7
   simp only
   rw [if_neg (by omega)]
 rw [e];rfl
def mm (p:Int×Int):bf:=⟨min2 p.1 p.2,max2 p.1 p.2⟩
theorem ab5 (p q:Int×Int):((mm p).e0=(mm q).e0∧(mm p).e1=(mm q).e1)↔he p q=true:=by
 obtain ⟨a,b⟩:=p
 obtain ⟨c,d⟩:=q
 unfold mm he
 simp only [decide_eq_true_eq]
 rcases zl a b with h1 | h1<;>rcases zl c d with h2 | h2<;>rcases zk a b with h3 | h3<;>rcases zk c d with h4 | h4<;>rw [h1.2,h2.2,h3.2,h4.2]<;>omega
theorem PI (R:List Int) (hR:R.length≤1048576):qG R=some ((er R).map mm):=by
 unfold qG
 have e:aG (mY R) (0,[])=some ((er R).map mm):=by
  refine jw (fun j:Nat=>((j:Int),((er R).take j).map mm)) R.length (fun j hj=>?_) ?_
  ·obtain ⟨e1,e2,e3⟩:=Yg hR hj
   unfold mY
   simp only
   rw [if_pos (by omega),e1,Option.bind_some,e2,Option.bind_some,e3,Option.bind_some,yx (by rw [List.length_map,List.length_take,List.length_singleton];omega),Option.bind_some,bU (by omega),List.take_succ_eq_append_getElem (by rw [wz];exact hj),List.map_append]
   rfl
  ·unfold mY
   simp only
   rw [if_neg (by omega),List.take_of_length_le (by rw [wz];exact Nat.le_refl _)]
 rw [e];rfl
theorem ahL (L:List (Int×Int)) (hL:L.length≤1048576) (p:Int×Int):fG (L.map mm) (mm p)=some (L.any (he p)):=by
 unfold fG iZ
 rcases xH (f:=fF (L.map mm) (mm p)) L (he p) (fun k=>(k:Int)) (by omega) (fun i hi=>by
  unfold fF
  rw [List.length_map,if_pos (by omega),eu (by rw [List.length_map];exact hi),Option.bind_some,List.getElem_map]
  by_cases c:he p L[i]=true
  ·rw [if_pos ((ab5 _ _).2 c),if_pos c]
  ·rw [if_neg (fun h=>c ((ab5 _ _).1 h)),if_neg c]) (by unfold fF;rw [List.length_map,if_neg (by omega)]) with ⟨h1,h2⟩ | ⟨i,hi,h1,_,h2⟩
 ·rw [h2,List.any_eq_false.2 fun x hx=>by simpa using h1 x hx]
  rfl
 ·rw [h2,List.any_eq_true.2 ⟨_,List.getElem_mem hi,h1⟩]
  show some (decide ((i:Int)≥0))=_
  rw [decide_eq_true (by omega)]
theorem afz {f:bf→Option Bool} {V:Int×Int→Bool} (L:List (Int×Int)) (hL:L.length≤1048576) (hf:∀p,f (mm p)=some (V p)):dX (L.map mm) f=some (L.any V):=by
 unfold dX ig
 rcases xH (f:=dW f (L.map mm)) L V (fun k=>(k:Int)) (by omega) (fun i hi=>by
  unfold dW
  rw [List.length_map,if_pos (by omega),eu (by rw [List.length_map];exact hi),Option.bind_some,List.getElem_map,hf]
  rfl) (by unfold dW;rw [List.length_map,if_neg (by omega)]) with ⟨h1,h2⟩ | ⟨i,hi,h1,_,h2⟩
 ·rw [h2,List.any_eq_false.2 fun x hx=>by simpa using h1 x hx]
  rfl
 ·rw [h2,List.any_eq_true.2 ⟨_,List.getElem_mem hi,h1⟩]
  show some (decide ((i:Int)≥0))=_
  rw [decide_eq_true (by omega)]
def zn (d:aA) (n:Nat):List (List bf):=(List.range n).map fun k=>(er (rg d k)).map mm
def xW {β:Type} (g:Nat→β) (z:β) (t n:Nat):List β:=(List.range t).map g++List.replicate (n - t) z
theorem NT {β:Type} {g:Nat→β} {z:β} {t n:Nat} (h:t≤n):(xW g z t n).length=n:=by
 unfold xW
 rw [List.length_append,List.length_map,List.length_range,List.length_replicate];omega
theorem VX {β:Type} {g:Nat→β} {z:β} {t n:Nat} (h:t<n):rd (xW g z t n) (t:Int)=some z:=by
 have hl:=NT (g:=g) (z:=z) (Nat.le_of_lt h)
 rw [eu (by omega)]
 unfold xW
 rw [List.getElem_append_right (by simp),List.getElem_replicate]
theorem VY {β:Type} {g:Nat→β} {z:β} {t n:Nat} (h:t<n):(xW g z t n).set t (g t)=xW g z (t+1) n:=by
 unfold xW
 rw [List.set_append_right _ _ (by simp),List.length_map,List.length_range,Nat.sub_self,List.range_succ,List.map_append,List.append_assoc]
 congr 1
 rw [show n - t=(n - (t+1))+1 by omega,List.replicate_succ,List.set_cons_zero]
 rfl
theorem VZ {β:Type} {g:Nat→β} {z:β} {n:Nat}:xW g z n n=(List.range n).map g:=by
 unfold xW
 rw [Nat.sub_self,List.replicate_zero,List.append_nil]
theorem TN {β:Type} {g:Nat→β} {z:β} {t n:Nat} (h:t<n):(xW g z t n).set t z=xW g z t n:=by
 have h1:=VX (g:=g) (z:=z) h
 rw [KL] at h1
 obtain ⟨h2,h3⟩:=List.getElem?_eq_some_iff.1 h1
 apply List.ext_getElem?
 intro j
 by_cases c:j=t
 ·subst c;rw [List.getElem?_set_self h2,h1]
 ·rw [List.getElem?_set_ne (by omega)]
theorem adI {α:Type} {l:List α} {t:Nat} {x:α} (h:t<l.length):rd (l.set t x) (t:Int)=some x:=by
 rw [KL,List.getElem?_set_self h]
theorem V3 {d:aA} (hb:bR d):pI d=some ((List.range d.aB.length).map fun k=>jk d k d.aB.length):=by
 have hF:=hb.1
 unfold pI
 have e:aG (lQ d) (0,[])=some (zn d d.aB.length):=by
  refine jw (fun t:Nat=>((t:Int),zn d t)) d.aB.length (fun t ht=>?_) ?_
  ·unfold lQ
   simp only
   rw [if_pos (by omega),eu ht,Option.bind_some,PI _ (hb.2 _ (List.getElem_mem ht)),Option.bind_some,yx (by unfold zn;rw [List.length_map,List.length_range,List.length_singleton];omega),Option.bind_some,bU (by omega)]
   unfold zn
   rw [List.range_succ,List.map_append,List.map_singleton,Yi ht]
  ·unfold lQ
   simp only
   rw [if_neg (by omega)]
 rw [e]
 have hl:(zn d d.aB.length).length=d.aB.length:=by unfold zn;rw [List.length_map,List.length_range]
 simp only [Option.bind_some,hl]
 unfold mkl
 rw [if_pos ⟨by omega,by omega⟩,Option.bind_some]
 have ed:∀k:Nat,k<d.aB.length→rd (zn d d.aB.length) (k:Int)=some ((er (rg d k)).map mm):=by
  intro k hk
  rw [eu (by omega)]
  unfold zn
  rw [List.getElem_map,List.getElem_range]
 have inner:∀(t:Nat),t<d.aB.length→∀(out:List (List Int)),out.length=d.aB.length→out.set t []=out→aG (kS (zn d d.aB.length) (t:Int)) (0,out)=some (out.set t (jk d t d.aB.length)):=by
  intro t ht out ho hz
  have h0:(((0:Nat):Int),out.set t (jk d t 0))=((0:Int),out):=by
   rw [show jk d t 0=[] from rfl,hz];rfl
  rw [←h0]
  refine jw (fun m:Nat=>((m:Int),out.set t (jk d t m))) d.aB.length (fun m hm=>?_) ?_
  ·have hn:=Ee d t m
   unfold kS
   simp only
   rw [hl,if_pos (by omega),LU]
   unfold kR
   rw [bU (by omega)]
   by_cases c1:m=t
   ·subst c1
    simp only [ne_eq,not_true_eq_false,if_false,false_and,Option.bind_some,Bool.false_eq_true]
   ·rw [if_pos (show (t:Int)≠(m:Int) by omega),ed t ht]
    have hc:∀p:Int×Int,jc (mm p) (zn d d.aB.length) (m:Int)=some ((er (rg d m)).any (he p)):=by
     intro p
     unfold jc
     rw [ed m hm,Option.bind_some,ahL _ (by rw [wz];exact ab4 hb m),Option.bind_some]
    simp only [Option.bind_some]
    rw [afz (V:=fun p=>(er (rg d m)).any (he p)) (er (rg d t)) (by rw [wz];exact ab4 hb t) hc]
    simp only [Option.bind_some]
    rw [show ((er (rg d t)).any fun p=>(er (rg d m)).any (he p))=fc (rg d t) (rg d m) from rfl]
    rw [adI (by omega)]
    cases hfc:fc (rg d t) (rg d m) with
    | false=>simp
    | true=>
     simp only [if_true,Option.bind_some,and_true]
     rw [if_pos c1,yx (by simp only [List.length_singleton];omega),Option.bind_some,show ((t:Int)).toNat=t from rfl,List.set_set]
  ·unfold kS
   simp only
   rw [hl,if_neg (by omega)]
 have h0:(((0:Nat):Int),xW (fun k=>jk d k d.aB.length) [] 0 d.aB.length)=((0:Int),List.replicate (d.aB.length:Int).toNat ([]:List Int)):=by
  unfold xW
  simp
 rw [←h0]
 have e2:aG (lN (zn d d.aB.length)) (((0:Nat):Int),xW (fun k=>jk d k d.aB.length) [] 0 d.aB.length)=some (xW (fun k=>jk d k d.aB.length) [] d.aB.length d.aB.length):=by
  refine jw (fun t:Nat=>((t:Int),xW (fun k=>jk d k d.aB.length) [] t d.aB.length)) d.aB.length (fun t ht=>?_) ?_
  ·unfold lN
   simp only
   rw [hl,if_pos (by omega),inner t ht _ (NT (Nat.le_of_lt ht)) (TN ht),Option.bind_some,bU (by omega)]
   rw [←VY ht]
  ·unfold lN
   simp only
   rw [hl,if_neg (by omega)]
 rw [e2,VZ];rfl
def Es (a b:Int):Int:=min2 (max2 (a - b) (b - a)) (180 - max2 (a - b) (b - a))
def ctP (a b:ai):Int:=max2 (a.dV - b.dV) (b.dV - a.dV)+(Es a.aZ b.aZ).tdiv 6
def okV (a:ai):Prop:=0≤a.dV∧a.dV≤100∧0≤a.aZ∧a.aZ≤179
theorem abv {a:ai} (h:LQ a=true):okV a:=by
 have e:=ab3 a
 rw [h] at e
 unfold jM at e
 simp only [Ed] at e
 cases hs:iQ a.jo with
 | none=>rw [hs] at e;cases e
 | some x=>
  rw [hs] at e
  simp only [Option.bind_some] at e
  cases h2:x.2 with
  | false=>rw [h2] at e;cases e
  | true=>
   rw [h2] at e
   by_cases c1:0≤a.dV∧a.dV≤100
   ·by_cases c3:0≤a.aZ∧a.aZ≤179
    ·exact ⟨c1.1,c1.2,c3.1,c3.2⟩
    ·rw [decide_eq_true c1,decide_eq_false c3] at e
     simp at e
   ·rw [decide_eq_false c1] at e
    simp at e
theorem ab6 (a b:Int):kW a b=some (max2 a b):=by
 unfold kW
 rcases zk a b with h | h<;>rw [h.2]
 ·rw [if_neg (by omega)]
 ·by_cases c:a>b
  ·rw [if_pos c]
  ·rw [if_neg c];congr 1;omega
theorem afA (a b:Int):mM a b=some (min2 a b):=by
 unfold mM
 rcases zl a b with h | h<;>rw [h.2]
 ·rw [if_neg (by omega)]
 ·by_cases c:a<b
  ·rw [if_pos c]
  ·rw [if_neg c];congr 1;omega
theorem Yj {a b:ai} (ha:okV a) (hb:okV b):0≤Es a.aZ b.aZ∧Es a.aZ b.aZ≤180∧-200≤max2 (a.aZ - b.aZ) (b.aZ - a.aZ)∧max2 (a.aZ - b.aZ) (b.aZ - a.aZ)≤200∧0≤max2 (a.dV - b.dV) (b.dV - a.dV)∧max2 (a.dV - b.dV) (b.dV - a.dV)≤100:=by
 obtain ⟨a1,a2,a3,a4⟩:=ha
 obtain ⟨b1,b2,b3,b4⟩:=hb
 unfold Es
 rcases zk (a.aZ - b.aZ) (b.aZ - a.aZ) with h | h<;>rcases zk (a.dV - b.dV) (b.dV - a.dV) with h' | h'<;>rw [h.2,h'.2]
 all_goals
  rcases zl (b.aZ - a.aZ) (180 - (b.aZ - a.aZ)) with k | k<;>rcases zl (a.aZ - b.aZ) (180 - (a.aZ - b.aZ)) with k' | k'<;>first | rw [k.2] | rw [k'.2]
  all_goals omega
theorem adJ {a b:ai} (ha:okV a) (hb:okV b):0≤ctP a b∧ctP a b≤200:=by
 obtain ⟨h1,h2,_,_,h3,h4⟩:=Yj ha hb
 unfold ctP
 have e:(Es a.aZ b.aZ).tdiv 6=Es a.aZ b.aZ / 6:=Int.tdiv_eq_ediv_of_nonneg h1
 rw [e]
 omega
theorem ahM {a b:ai} (ha:okV a) (hb:okV b):nS a b=some (ctP a b):=by
 obtain ⟨h1,h2,h5,h6,h3,h4⟩:=Yj ha hb
 have h0:=adJ ha hb
 obtain ⟨a1,a2,a3,a4⟩:=ha
 obtain ⟨b1,b2,b3,b4⟩:=hb
 unfold nS wI
 rw [fH (n:=a.dV - b.dV) (by omega) (by omega),fH (n:=b.dV - a.dV) (by omega) (by omega),fH (n:=a.aZ - b.aZ) (by omega) (by omega),fH (n:=b.aZ - a.aZ) (by omega) (by omega),ab6,ab6,Option.bind_some,Option.bind_some,
  fH (n:=180 - max2 (a.aZ - b.aZ) (b.aZ - a.aZ)) (by omega) (by omega),afA,Option.bind_some,Option.bind_some]
 have e:dv .i64 (Es a.aZ b.aZ) 6=some ((Es a.aZ b.aZ).tdiv 6):=by
  unfold dv
  rw [if_neg (by decide)]
  congr 1
  have e:(Es a.aZ b.aZ).tdiv 6=Es a.aZ b.aZ / 6:=Int.tdiv_eq_ediv_of_nonneg h1
  exact fH (by rw [e];omega) (by rw [e];omega)
 show (dv .i64 (Es a.aZ b.aZ) 6).bind _=_
 rw [e,Option.bind_some]
 show some (w64 (ctP a b))=_
 rw [fH (by omega) (by omega)]
theorem ahN {a b:ai} (ha:okV a) (hb:okV b):sQ a b=some (ctP a b):=by
 obtain ⟨h1,h2,h5,h6,h3,h4⟩:=Yj ha hb
 have h0:=adJ ha hb
 obtain ⟨a1,a2,a3,a4⟩:=ha
 obtain ⟨b1,b2,b3,b4⟩:=hb
 unfold sQ tC
 simp only [Ed]
 rw [decide_eq_true (show 0≤a.aZ∧a.aZ≤179 from ⟨a3,a4⟩),decide_eq_true (show 0≤b.aZ∧b.aZ≤179 from ⟨b3,b4⟩)]
 simp only [Option.bind_some,if_true,Bool.not_true,Bool.false_eq_true,if_false]
 rw [fH (n:=a.dV - b.dV) (by omega) (by omega),fH (n:=b.dV - a.dV) (by omega) (by omega),fH (n:=a.aZ - b.aZ) (by omega) (by omega),fH (n:=b.aZ - a.aZ) (by omega) (by omega),
  fH (n:=180 - max2 (a.aZ - b.aZ) (b.aZ - a.aZ)) (by omega) (by omega)]
 have e:dv .i64 (Es a.aZ b.aZ) 6=some ((Es a.aZ b.aZ).tdiv 6):=by
  unfold dv
  rw [if_neg (by decide)]
  congr 1
  have e:(Es a.aZ b.aZ).tdiv 6=Es a.aZ b.aZ / 6:=Int.tdiv_eq_ediv_of_nonneg h1
  exact fH (by rw [e];omega) (by rw [e];omega)
 show (dv .i64 (Es a.aZ b.aZ) 6).bind _=_
 rw [e,Option.bind_some]
 show some (w64 (ctP a b))=_
 rw [fH (by omega) (by omega)]
theorem UN (p q:Int×Int):he p q=he q p:=by
 unfold he
 exact decide_eq_decide.2 (by omega)
theorem abw (R S:List Int):fc R S=fc S R:=by
 unfold fc
 rw [Bool.eq_iff_iff,List.any_eq_true,List.any_eq_true]
 constructor
 ·rintro ⟨p,hp,h⟩
  obtain ⟨q,hq,h2⟩:=List.any_eq_true.1 h
  exact ⟨q,hq,List.any_eq_true.2 ⟨p,hp,by rw [UN];exact h2⟩⟩
 ·rintro ⟨p,hp,h⟩
  obtain ⟨q,hq,h2⟩:=List.any_eq_true.1 h
  exact ⟨q,hq,List.any_eq_true.2 ⟨p,hp,by rw [UN];exact h2⟩⟩
theorem Yk (l:List Int) (n:Int) (hl:l.length≤1048576):wX l n=some (decide (n∈l)):=by
 unfold wX
 rcases UL (f:=qE l n) l (fun x=>!decide (x=n)) (fun _=>true) (by omega) (fun i hi=>by
  unfold qE
  rw [if_pos (by omega),eu hi,Option.bind_some]
  by_cases c:l[i]=n<;>simp [c]) (by unfold qE;rw [if_neg (by omega)]) with ⟨h1,h2⟩ | ⟨h1,i,hi,h2⟩
 ·rw [h2]
  have:¬n∈l:=fun h=>by
   have:=List.all_eq_true.1 h1 n h
   simp at this
  simp [this]
 ·rw [h2]
  have:n∈l:=by
   rw [List.all_eq_false] at h1
   obtain ⟨x,hx,h⟩:=h1
   simp at h
   exact h ▸ hx
  simp [this]
theorem Rk (l:List Int) (n:Int) (hl:l.length≤1048576):dR l n=some (decide (n∈l)):=by
 unfold dR jR
 rcases UL (f:=ik l n) l (fun x=>!decide (n=x)) (fun i=>(i:Int)) (by omega) (fun i hi=>by
  unfold ik
  rw [if_pos (by omega),eu hi,Option.bind_some]
  by_cases c:n=l[i]<;>simp [c]) (by unfold ik;rw [if_neg (by omega)]) with ⟨h1,h2⟩ | ⟨h1,i,hi,h2⟩
 ·rw [h2]
  have:¬n∈l:=fun h=>by
   have:=List.all_eq_true.1 h1 n h
   simp at this
  simp [this]
 ·rw [h2]
  have:n∈l:=by
   rw [List.all_eq_false] at h1
   obtain ⟨x,hx,h⟩:=h1
   simp at h
   exact h ▸ hx
  simp [this]
theorem Bd {x:Int}:∀l,x∈cmpL l↔x∈l
 | []=>Iff.rfl
 | a::t=>by
  unfold cmpL
  by_cases c:t.head? =some a
  ·rw [if_pos c,Bd t,List.mem_cons]
   exact ⟨.inr,fun h=>h.elim (fun e=>by subst e;exact List.mem_of_mem_head? c) id⟩
  ·rw [if_neg c,List.mem_cons,List.mem_cons,Bd t]
theorem LV:∀l,l.Pairwise (·≤·)→(cmpL l).Pairwise (· < ·)
 | [],_=>List.Pairwise.nil
 | a::t,h=>by
  obtain ⟨h1,h2⟩:=List.pairwise_cons.1 h
  unfold cmpL
  by_cases c:t.head? =some a
  ·rw [if_pos c];exact LV t h2
  ·rw [if_neg c]
   refine List.pairwise_cons.2 ⟨fun x hx=>?_,LV t h2⟩
   have hx:=(Bd t).1 hx
   cases t with
   | nil=>cases hx
   | cons b t=>
    have hb:=h1 b (List.mem_cons_self ..)
    have hab:a≠b:=fun e=>c (by rw [e];rfl)
    rcases List.mem_cons.1 hx with rfl | hx
    ·omega
    ·have:=(List.pairwise_cons.1 h2).1 x hx
     omega
def nb (G:List Int):List Int:=G.foldl (fun acc x=>if x∈acc then acc else acc++[x]) []
theorem PK (G:List Int) (x:Int):nb (G++[x])=if x∈nb G then nb G else nb G++[x]:=by
 unfold nb
 rw [List.foldl_append]
 rfl
theorem Rl {p:List Int→Prop} (h0:p []) (h1:∀G x,p G→p (G++[x])):∀G,p G:=by
 intro G
 have:∀n (G:List Int),G.length=n→p G:=by
  intro n
  induction n with
  | zero=>intro G h;rw [List.eq_nil_of_length_eq_zero h];exact h0
  | succ n ih=>
   intro G h
   rcases List.eq_nil_or_concat G with rfl | ⟨L,y,rfl⟩
   ·cases h
   ·rw [List.concat_eq_append] at h ⊢
    rw [List.length_append,List.length_singleton] at h
    exact h1 L y (ih L (by omega))
 exact this G.length G rfl
theorem LW {x:Int}:∀G,x∈nb G↔x∈G:=by
 refine Rl (p:=fun G=>x∈nb G↔x∈G) Iff.rfl fun G y ih=>?_
 rw [PK]
 by_cases c:y∈nb G
 ·rw [if_pos c,ih,List.mem_append,List.mem_singleton]
  exact ⟨.inl,fun h=>h.elim id fun e=>by subst e;exact ih.1 c⟩
 ·rw [if_neg c,List.mem_append,List.mem_append,ih]
theorem LX:∀G,(nb G).Nodup:=by
 refine Rl (p:=fun G=>(nb G).Nodup) List.Pairwise.nil fun G y ih=>?_
 rw [PK]
 by_cases c:y∈nb G
 ·rw [if_pos c];exact ih
 ·rw [if_neg c]
  exact List.nodup_append.2 ⟨ih,by simp,fun a ha b hb e=>c (by rw [List.mem_singleton] at hb;rw [←hb,←e];exact ha)⟩
def kn (G:List Int):Nat:=(nb G).length
theorem IE:kn []=0:=rfl
theorem JB (G:List Int) (x:Int):kn (G++[x])=if x∈G then kn G else kn G+1:=by
 unfold kn
 rw [PK]
 by_cases c:x∈G
 ·rw [if_pos c,if_pos ((LW G).2 c)]
 ·rw [if_neg c,if_neg fun h=>c ((LW G).1 h),List.length_append];rfl
theorem Yl (G:List Int):(cmpL (sortL G)).length=kn G:=by
 have h1:(cmpL (sortL G)).Nodup:=(LV _ (Xy G)).imp fun h e=>by omega
 have hm:∀x,x∈cmpL (sortL G)↔x∈nb G:=fun x=>by rw [Bd,(BC G).mem_iff,LW]
 have a:=IA _ _ h1 fun x hx=>(hm x).1 hx
 have b:=IA _ _ (LX G) fun x hx=>(hm x).2 hx
 exact Nat.le_antisymm a b
theorem abx (G:List Int) (k:Nat):kn (G.take k)≤kn G:=by
 have:∀(m:Nat) (G:List Int),G.length=k+m→kn (G.take k)≤kn G:=by
  intro m
  induction m with
  | zero=>intro G h;rw [List.take_of_length_le (by omega)];exact Nat.le_refl _
  | succ m ih=>
   intro G h
   rcases List.eq_nil_or_concat G with rfl | ⟨L,y,rfl⟩
   ·simp at h
   ·rw [List.concat_eq_append] at h ⊢
    rw [List.length_append,List.length_singleton] at h
    have:=ih L (by omega)
    rw [List.take_append_of_le_length (by omega),JB]
    split<;>omega
 by_cases c:k≤G.length
 ·exact this (G.length - k) G (by omega)
 ·rw [List.take_of_length_le (by omega)];exact Nat.le_refl _
theorem UO (G:List Int) (n:Nat) (h:∀x∈G,0≤x∧x<n):kn G≤n:=by
 have:=IA (nb G) (upto n) (LX G) fun x hx=>X9.2 (h x ((LW G).1 hx))
 rw [Q3] at this
 exact this
abbrev FCo:=(aO×(List Int)×Int×Int)→Option ((List Int)×Int×aO)
theorem adK (x:aO) (F:List Int) (a b:Int):Fs (fun self:FCo=>dH self x F a b):=by
 have k24:∀a b c d,Fs (fun self:FCo=>dG self a b c d):=by
  intros
  unfold dG
  exact Fs.const _
 unfold dH
 refine Fs.ite (Fs.const _) (Fs.bind (Fs.const _) fun _=>Fs.bind (Fs.const _) fun _=>Fs.bind (Fs.const _) fun _=>Fs.bind (Fs.loop (fun s=>?_) _) fun _=>Fs.const _)
 obtain ⟨a1,a2,a3,a4⟩:=s
 unfold aU
 refine Fs.ite (Fs.bind (Fs.const _) fun _=>Fs.ite (k24 _ _ _ _) (Fs.bind (Fs.const _) fun _=>Fs.bind (Fs.loop (fun s=>?_) _) fun _=>Fs.ite (Fs.ite (Fs.const _) (Fs.bind (Fs.const _) fun _=>Fs.bind (Fs.const _) fun _=>Fs.bind (Fs.app _) fun _=>Fs.ite (Fs.const _) (k24 _ _ _ _))) (k24 _ _ _ _))) (Fs.const _)
 obtain ⟨b1,b2⟩:=s
 unfold gQ
 exact Fs.const _
noncomputable abbrev SCo:FCo:=fun s=>gy s.1 s.2.1 s.2.2.1 s.2.2.2
theorem PL (x:aO) (F:List Int) (a b:Int):gy x F a b=dH SCo x F a b:=by
 show Bv _ _=_
 rw [OB]
 ·rfl
 ·rintro ⟨x,F,a,b⟩
  exact adK x F a b
section
variable {d:aA} (hb:bR d) {C:List ai} (hC:∀x∈C,okV x) (hCl:C.length≤1048576)
def gC (C:List ai) (i:Int):ai:=C.getD i.toNat ⟨⟨#[]⟩,0,0⟩
abbrev nrC (d:aA):List (List Int):=(List.range d.aB.length).map fun k=>jk d k d.aB.length
theorem Ef:(nrC d).length=d.aB.length:=by rw [List.length_map,List.length_range]
include hC in
theorem Ym {i:Int} (h0:0≤i) (h1:i<C.length):rd C i=some (gC C i)∧okV (gC C i):=by
 obtain ⟨k,rfl⟩:∃k:Nat,i=(k:Int):=⟨i.toNat,by omega⟩
 have hk:k<C.length:=by omega
 have e:gC C (k:Int)=C[k]:=by
  unfold gC
  rw [Int.toNat_natCast,List.getD_eq_getElem?_getD,List.getElem?_eq_getElem hk];rfl
 rw [e]
 exact ⟨eu hk,hC _ (List.getElem_mem hk)⟩
def gdC (C:List ai) (limit:Int) (G:List Int) (t:Int) (m:Int):Bool:=decide (m≥(G.length:Int))||decide (ctP (gC C t) (gC C (G.getD m.toNat 0))≥limit)
def PC (d:aA) (C:List ai) (limit:Int) (G:List Int):Prop:=∀k (h:k<G.length),0≤G[k]∧G[k] <C.length∧(jk d k d.aB.length).all (gdC C limit (G.take k) G[k])=true
theorem PC.nil {limit:Int}:PC d C limit []:=fun k h=>absurd h (by simp)
theorem PC.snoc {limit:Int} {G:List Int} {t:Int} (hG:PC d C limit G) (h0:0≤t) (h1:t<C.length) (hg:(jk d G.length d.aB.length).all (gdC C limit G t)=true):PC d C limit (G++[t]):=by
 intro k h
 by_cases c:k<G.length
 ·rw [List.getElem_append_left c,List.take_append_of_le_length (by omega)]
  exact hG k c
 ·have:k=G.length:=by rw [List.length_append,List.length_singleton] at h;omega
  subst this
  rw [List.getElem_append_right (by omega),List.take_left' rfl]
  exact ⟨by simpa using h0,by simpa using h1,by simpa using hg⟩
theorem PC.range {limit:Int} {G:List Int} (hG:PC d C limit G):∀x∈G,0≤x∧x<C.length:=by
 intro x hx
 obtain ⟨k,hk,rfl⟩:=List.getElem_of_mem hx
 exact ⟨(hG k hk).1,(hG k hk).2.1⟩
include hb hC in
theorem Yn {s0:FCo} {limit:Int} {G:List Int} (hG:∀x∈G,0≤x∧x<C.length) (hk:G.length<d.aB.length) {t:Int} (t0:0≤t) (t1:t<C.length):
 aG (gQ s0 G limit C t (jk d G.length d.aB.length)) (true,0)=some ((jk d G.length d.aB.length).all (gdC C limit G t)):=by
 have hF:=hb.1
 have hl:=Ee d G.length d.aB.length
 have at_:∀{l:List Int} {p:Int→Bool} {i:Nat} (h:i<l.length),(l.take (i+1)).all p=((l.take i).all p&&p l[i]):=by
  intro l p i h
  rw [List.take_succ_eq_append_getElem h,List.all_append,List.all_cons,List.all_nil,Bool.and_true]
 refine jw (fun j:Nat=>(((jk d G.length d.aB.length).take j).all (gdC C limit G t),(j:Int))) (jk d G.length d.aB.length).length (fun j hj=>?_) ?_
 ·have hm:=List.getElem_mem hj
  obtain ⟨m0,m1⟩:=NS hm
  unfold gQ
  simp only
  rw [if_pos (by omega),eu hj,Option.bind_some,at_ hj,bU (by omega)]
  cases ((jk d G.length d.aB.length).take j).all (gdC C limit G t) with
  | false=>rfl
  | true=>
   rw [if_pos rfl,Bool.true_and]
   generalize (jk d G.length d.aB.length)[j]=m at m0 m1 hm
   obtain ⟨i,rfl⟩:∃i:Nat,m=(i:Int):=⟨m.toNat,by omega⟩
   unfold gdC
   by_cases c:(i:Int)≥(G.length:Int)
   ·rw [if_pos c,decide_eq_true c];rfl
   ·have hi:i<G.length:=by omega
    have eg:G.getD ((i:Int)).toNat 0=G[i]:=by rw [Int.toNat_natCast,List.getD_eq_getElem?_getD,List.getElem?_eq_getElem hi];rfl
    obtain ⟨g0,g1⟩:=hG _ (List.getElem_mem hi)
    obtain ⟨a1,a2⟩:=Ym hC t0 t1
    obtain ⟨b1,b2⟩:=Ym hC g0 g1
    rw [if_neg c,decide_eq_false c,a1,Option.bind_some,eu hi,Option.bind_some,b1,Option.bind_some,ahN a2 b2,Option.bind_some,eg]
    rfl
 ·unfold gQ
  simp only
  rw [if_neg (by omega),List.take_of_length_le (Nat.le_refl _)]
def RSo (d:aA) (C:List ai) (limit most:Int) (G out:List Int) (code L L':Int):Prop:=0≤L'∧L'≤L∧
 ((code=0∧PC d C limit out∧out.length=d.aB.length∧(kn out:Int)≤most)∨(code=5∧out=[])∨(code=3∧out=[]∧∀E,PC d C limit (G++E)→(G++E).length=d.aB.length→¬(kn (G++E):Int)≤most))
include hb hC hCl
theorem aby (limit most:Int) (hm:0≤most):∀(m:Nat) (G:List Int) (L:Int),G.length+m=d.aB.length→0≤L→L≤20000→PC d C limit G→(kn G:Int)≤most→
 ∃out code L',gy ⟨nrC d,C,L⟩ G limit most=some (out,code,⟨nrC d,C,L'⟩)∧RSo d C limit most G out code L L':=by
 have hF:=hb.1
 intro m
 induction m with
 | zero=>
  intro G L hl h0 h1 hG hk
  rw [PL]
  unfold dH
  simp only
  rw [if_pos (by rw [Ef];omega)]
  exact ⟨G,0,L,rfl,h0,Int.le_refl _,.inl ⟨rfl,hG,by omega,hk⟩⟩
 | succ m ih=>
  intro G L hl h0 h1 hG hk
  have hGr:=hG.range
  have hGl:G.length≤1048576:=by omega
  rw [PL]
  unfold dH
  simp only
  have hs1:KO G=some (sortL G):=by unfold KO;rw [if_pos (by omega)]
  have hs2:SE (sortL G)=some (cmpL (sortL G)):=by unfold SE;rw [if_pos (by rw [Ar];omega)]
  rw [if_neg (by rw [Ef];omega),yx (by simp only [List.length_nil];omega),Option.bind_some,List.nil_append,hs1,Option.bind_some,hs2,Option.bind_some]
  have hcl:(cmpL (sortL G)).length≤1048576:=Nat.le_trans (Gm _) (by rw [Ar];exact hGl)
  have hmem:∀t,t∈cmpL (sortL G)↔t∈G:=fun t=>by rw [Bd,(BC G).mem_iff]
  have hnr:rd (nrC d) (G.length:Int)=some (jk d G.length d.aB.length):=by
   rw [eu (by rw [Ef];omega),List.getElem_map,List.getElem_range]
  have bad:∀t:Nat,(∀E,PC d C limit (G++(t:Int)::E)→(G++(t:Int)::E).length=d.aB.length→¬(kn (G++(t:Int)::E):Int)≤most)∨
   ((jk d G.length d.aB.length).all (gdC C limit G (t:Int))=true∧(kn (G++[(t:Int)]):Int)≤most):=by
   intro t
   by_cases c1:(jk d G.length d.aB.length).all (gdC C limit G (t:Int))=true
   ·by_cases c2:(kn (G++[(t:Int)]):Int)≤most
    ·exact .inr ⟨c1,c2⟩
    ·left
     intro E _ _ h
     have:=abx (G++(t:Int)::E) (G.length+1)
     rw [show (G++(t:Int)::E).take (G.length+1)=G++[(t:Int)] by rw [List.take_append,List.take_of_length_le (by omega)];simp] at this
     omega
   ·left
    intro E h _
    have:=(h G.length (by rw [List.length_append,List.length_cons];omega)).2.2
    rw [List.getElem_append_right (by omega),List.take_left' rfl] at this
    exact absurd (by simpa using this) c1
  have lp:∀(k i:Nat) (L1:Int),i+k=C.length→0≤L1→L1≤L→(∀t:Nat,t<i→∀E,PC d C limit (G++(t:Int)::E)→(G++(t:Int)::E).length=d.aB.length→¬(kn (G++(t:Int)::E):Int)≤most)→
   (∃L',aG (aU SCo G limit most ⟨nrC d,C,L⟩ (cmpL (sortL G))) ((i:Int),nrC d,C,L1)=some (.inl (nrC d,C,L'))∧0≤L'∧L'≤L1∧∀t:Nat,t<C.length→∀E,PC d C limit (G++(t:Int)::E)→(G++(t:Int)::E).length=d.aB.length→¬(kn (G++(t:Int)::E):Int)≤most)∨
   (∃out code L',aG (aU SCo G limit most ⟨nrC d,C,L⟩ (cmpL (sortL G))) ((i:Int),nrC d,C,L1)=some (.inr (out,code,⟨nrC d,C,L'⟩))∧0≤L'∧L'≤L1∧
     ((code=0∧PC d C limit out∧out.length=d.aB.length∧(kn out:Int)≤most)∨(code=5∧out=[]))):=by
   intro k
   induction k with
   | zero=>
    intro i L1 hi g0 g1 g2
    refine .inl ⟨L1,aN ?_,g0,Int.le_refl _,fun t ht=>g2 t (by omega)⟩
    unfold aU
    simp only
    rw [if_neg (by omega)]
   | succ k ihk=>
    intro i L1 hi g0 g1 g2
    have hi':i<C.length:=by omega
    have next:(∀E,PC d C limit (G++(i:Int)::E)→(G++(i:Int)::E).length=d.aB.length→¬(kn (G++(i:Int)::E):Int)≤most)→∀t:Nat,t<i+1→∀E,PC d C limit (G++(t:Int)::E)→(G++(t:Int)::E).length=d.aB.length→¬(kn (G++(t:Int)::E):Int)≤most:=by
     intro h t ht
     by_cases e:t=i
     ·subst e;exact h
     ·exact g2 t (by omega)
    have hgood:=Yn (s0:=SCo) hb hC (limit:=limit) hGr (by omega) (t:=(i:Int)) (by omega) (by omega)
    have hcond:(if ((cmpL (sortL G)).length:Int)≥most then (dR (cmpL (sortL G)) (i:Int)).bind fun x49=>some (!x49) else some false)=some (!decide ((kn (G++[(i:Int)]):Int)≤most)):=by
     rw [Yl,JB,Rk _ _ hcl]
     by_cases c1:(kn G:Int)≥most
     ·rw [if_pos c1,Option.bind_some]
      by_cases c2:(i:Int)∈G
      ·rw [decide_eq_true ((hmem _).2 c2),if_pos c2,decide_eq_true hk]
      ·rw [decide_eq_false (fun h=>c2 ((hmem _).1 h)),if_neg c2,decide_eq_false (by omega)]
     ·rw [if_neg c1]
      split
      ·rw [decide_eq_true hk];rfl
      ·rw [decide_eq_true (by omega)];rfl
    have st0:∀X,aU SCo G limit most ⟨nrC d,C,L⟩ (cmpL (sortL G)) ((i:Int),nrC d,C,L1)=X↔((if (kn (G++[(i:Int)]):Int)≤most then
     (if (jk d G.length d.aB.length).all (gdC C limit G (i:Int))=true then (if L1=0 then some (.inr (.inr (([]:List Int),5,(⟨nrC d,C,L1⟩:aO)))) else (SCo (⟨nrC d,C,L1 - 1⟩,G++[(i:Int)],limit,most)).bind fun sV=>
       if sV.2.1≠3 then some (.inr (.inr (sV.1,sV.2.1,sV.2.2))) else some (.inl (((i+1:Nat):Int),sV.2.2.near,sV.2.2.iJ,sV.2.2.left)))
     else some (.inl (((i+1:Nat):Int),nrC d,C,L1))) else some (.inl (((i+1:Nat):Int),nrC d,C,L1)))=X):=by
     intro X
     unfold aU dG
     simp only
     rw [if_pos (by omega),hcond,Option.bind_some,bU (by omega),hnr,Option.bind_some,hgood,Option.bind_some]
     by_cases c1:(kn (G++[(i:Int)]):Int)≤most
     ·rw [decide_eq_true c1,if_pos c1,if_neg (by decide)]
      by_cases cL:L1=0
      ·rw [if_pos cL,if_pos cL]
      ·rw [if_neg cL,if_neg cL,yx (by simp only [List.length_nil];omega),Option.bind_some,List.nil_append,yx (by rw [List.length_singleton];omega),Option.bind_some,fH (n:=L1 - 1) (by omega) (by omega)]
     ·rw [decide_eq_false c1,if_neg c1,if_pos (by decide)]
    rcases bad i with hbd | ⟨b1,b2⟩
    ·by_cases c1:(kn (G++[(i:Int)]):Int)≤most
     ·by_cases c2:(jk d G.length d.aB.length).all (gdC C limit G (i:Int))=true
      ·
       by_cases cL:L1=0
       ·refine .inr ⟨[],5,L1,aN ((st0 _).2 ?_),g0,Int.le_refl _,.inr ⟨rfl,rfl⟩⟩
        rw [if_pos c1,if_pos c2,if_pos cL]
       ·obtain ⟨out,code,L2,r1,r2,r3,r4⟩:=ih (G++[(i:Int)]) (L1 - 1) (by rw [List.length_append,List.length_singleton];omega) (by omega) (by omega) (hG.snoc (by omega) (by omega) c2) c1
        have r1:SCo (⟨nrC d,C,L1 - 1⟩,G++[(i:Int)],limit,most)=some (out,code,⟨nrC d,C,L2⟩):=r1
        rcases r4 with ⟨rfl,r5⟩ | ⟨rfl,r5⟩ | ⟨rfl,r5,r6⟩
        ·refine .inr ⟨out,0,L2,aN ((st0 _).2 ?_),r2,by omega,.inl ⟨rfl,r5⟩⟩
         rw [if_pos c1,if_pos c2,if_neg cL,r1];rfl
        ·refine .inr ⟨out,5,L2,aN ((st0 _).2 ?_),r2,by omega,.inr ⟨rfl,r5⟩⟩
         rw [if_pos c1,if_pos c2,if_neg cL,r1];rfl
        ·have st:=(st0 (some (.inl (((i+1:Nat):Int),nrC d,C,L2)))).2 (by rw [if_pos c1,if_pos c2,if_neg cL,r1];rfl)
         rw [bT st]
         rcases ihk (i+1) L2 (by omega) r2 (by omega) (next hbd) with ⟨L',q1,q2,q3,q4⟩ | ⟨o2,c,L',q1,q2,q3,q4⟩
         ·exact .inl ⟨L',q1,q2,by omega,q4⟩
         ·exact .inr ⟨o2,c,L',q1,q2,by omega,q4⟩
      ·have st:=(st0 (some (.inl (((i+1:Nat):Int),nrC d,C,L1)))).2 (by rw [if_pos c1,if_neg c2])
       rw [bT st]
       exact ihk (i+1) L1 (by omega) g0 g1 (next hbd)
     ·have st:=(st0 (some (.inl (((i+1:Nat):Int),nrC d,C,L1)))).2 (by rw [if_neg c1])
      rw [bT st]
      exact ihk (i+1) L1 (by omega) g0 g1 (next hbd)
    ·by_cases cL:L1=0
     ·refine .inr ⟨[],5,L1,aN ((st0 _).2 ?_),g0,Int.le_refl _,.inr ⟨rfl,rfl⟩⟩
      rw [if_pos b2,if_pos b1,if_pos cL]
     ·obtain ⟨out,code,L2,r1,r2,r3,r4⟩:=ih (G++[(i:Int)]) (L1 - 1) (by rw [List.length_append,List.length_singleton];omega) (by omega) (by omega) (hG.snoc (by omega) (by omega) b1) b2
      have r1:SCo (⟨nrC d,C,L1 - 1⟩,G++[(i:Int)],limit,most)=some (out,code,⟨nrC d,C,L2⟩):=r1
      rcases r4 with ⟨rfl,r5⟩ | ⟨rfl,r5⟩ | ⟨rfl,r5,r6⟩
      ·refine .inr ⟨out,0,L2,aN ((st0 _).2 ?_),r2,by omega,.inl ⟨rfl,r5⟩⟩
       rw [if_pos b2,if_pos b1,if_neg cL,r1];rfl
      ·refine .inr ⟨out,5,L2,aN ((st0 _).2 ?_),r2,by omega,.inr ⟨rfl,r5⟩⟩
       rw [if_pos b2,if_pos b1,if_neg cL,r1];rfl
      ·have st:=(st0 (some (.inl (((i+1:Nat):Int),nrC d,C,L2)))).2 (by rw [if_pos b2,if_pos b1,if_neg cL,r1];rfl)
       rw [bT st]
       rcases ihk (i+1) L2 (by omega) r2 (by omega) (next fun E h1 h2=>by
        have:=r6 E
        rw [List.append_assoc,List.singleton_append] at this
        exact this h1 h2) with ⟨L',q1,q2,q3,q4⟩ | ⟨o2,c,L',q1,q2,q3,q4⟩
       ·exact .inl ⟨L',q1,q2,by omega,q4⟩
       ·exact .inr ⟨o2,c,L',q1,q2,by omega,q4⟩
  rcases lp C.length 0 L (by omega) h0 (Int.le_refl _) (fun t ht=>absurd ht (by omega)) with ⟨L',q1,q2,q3,q4⟩ | ⟨out,c,L',q1,q2,q3,q4⟩
  ·have q1:aG (aU SCo G limit most ⟨nrC d,C,L⟩ (cmpL (sortL G))) (0,nrC d,C,L)=_:=q1
   rw [q1]
   refine ⟨[],3,L',rfl,q2,q3,.inr (.inr ⟨rfl,rfl,fun E h1 h2=>?_⟩)⟩
   cases E with
   | nil=>rw [List.append_nil] at h2;omega
   | cons x E=>
    have hx:=h1.range x (by simp)
    obtain ⟨t,rfl⟩:∃t:Nat,x=(t:Int):=⟨x.toNat,by omega⟩
    exact q4 t (by omega) E h1 h2
  ·have q1:aG (aU SCo G limit most ⟨nrC d,C,L⟩ (cmpL (sortL G))) (0,nrC d,C,L)=_:=q1
   rw [q1]
   refine ⟨out,c,L',rfl,q2,q3,?_⟩
   rcases q4 with q4 | q4
   ·exact .inl q4
   ·exact .inr (.inl q4)
end
theorem afB {d:aA} (hb:jU d):bR d:=by
 obtain ⟨_,_,_,⟨hf,hF⟩⟩:=hb
 exact ⟨hf,fun f h=>(hF f h).2.1⟩
def pt (l:List Int) (n:Int):List Int:=l.filter (fun x=>decide (x<n))++[n]++l.filter fun x=>decide (n<x)
theorem adL {l:List Int} {n x:Int}:x∈pt l n↔x∈l∨x=n:=by
 unfold pt
 simp only [List.mem_append,List.mem_filter,List.mem_singleton,decide_eq_true_eq]
 constructor
 ·rintro ((h | h) | h)
  ·exact .inl h.1
  ·exact .inr h
  ·exact .inl h.1
 ·rintro (h | h)
  ·rcases Int.lt_trichotomy x n with c | c | c
   ·exact .inl (.inl ⟨h,c⟩)
   ·exact .inl (.inr c)
   ·exact .inr ⟨h,c⟩
  ·exact .inl (.inr h)
theorem adM {l:List Int} {n:Int} (h:l.Pairwise (· < ·)):(pt l n).Pairwise (· < ·):=by
 unfold pt
 rw [List.pairwise_append,List.pairwise_append]
 refine ⟨⟨h.filter _,List.pairwise_singleton _ _,fun a ha b hb=>?_⟩,h.filter _,fun a ha b hb=>?_⟩
 ·rw [List.mem_singleton.1 hb]
  simpa using (List.mem_filter.1 ha).2
 ·have h2:n<b:=by simpa using (List.mem_filter.1 hb).2
  rcases List.mem_append.1 ha with ha | ha
  ·have:a<n:=by simpa using (List.mem_filter.1 ha).2
   omega
  ·rw [List.mem_singleton.1 ha];exact h2
theorem adN {l:List Int} (hl:l.length≤1000) (h:l.Pairwise (· < ·)) (n:Int):wW l n=some (pt l n):=by
 have lp:∀(k i:Nat) (done:Bool) (out:List Int),i+k=l.length→out.length≤i+1→(done=false→out=l.take i∧∀x∈l.take i,x<n)→(done=true→out=pt (l.take i) n∧∀j (hj:j<l.length),i≤j→n<l[j])→
  ∃d o,aG (gm l n) (done,(i:Int),out)=some (d,o)∧(d=false→o=l∧∀x∈l,x<n)∧(d=true→o=pt l n):=by
  intro k
  induction k with
  | zero=>
   intro i done out hi ho h1 h2
   refine ⟨done,out,aN ?_,fun hd=>?_,fun hd=>?_⟩
   ·unfold gm
    simp only
    rw [if_neg (by omega)]
   ·have:=h1 hd
    rw [List.take_of_length_le (by omega)] at this
    exact this
   ·have:=(h2 hd).1
    rw [List.take_of_length_le (by omega)] at this
    exact this
  | succ k ih=>
   intro i done out hi ho h1 h2
   have hi':i<l.length:=by omega
   have htk:=List.take_succ_eq_append_getElem hi'
   have hlt:∀x∈l.take i,x<l[i]:=by
    intro x hx
    obtain ⟨j,hj,rfl⟩:=List.mem_take_iff_getElem.1 hx
    exact List.pairwise_iff_getElem.1 h j i (by omega) hi' (by omega)
   have hgt:∀j (hj:j<l.length),i+1≤j→l[i] <l[j]:=fun j hj hij=>List.pairwise_iff_getElem.1 h i j hi' hj (by omega)
   cases done with
   | true=>
    obtain ⟨e1,e2⟩:=h2 rfl
    have e3:=e2 i hi' (Nat.le_refl _)
    have st:gm l n (true,(i:Int),out)=some (.inl (true,((i+1:Nat):Int),out++[l[i]])):=by
     unfold gm iY
     simp only
     rw [if_pos (by omega),if_pos trivial,Option.bind_some,if_neg (by decide),eu hi',Option.bind_some,yx (by rw [List.length_singleton];omega),Option.bind_some,bU (by omega)]
    rw [bT st]
    refine ih (i+1) true _ (by omega) (by rw [List.length_append,List.length_singleton];omega) (fun h=>by cases h) fun _=>⟨?_,fun j hj hij=>e2 j hj (by omega)⟩
    rw [e1,htk]
    unfold pt
    rw [List.filter_append,List.filter_append]
    have f1:[l[i]].filter (fun x=>decide (x<n))=[]:=by simp;omega
    have f2:[l[i]].filter (fun x=>decide (n<x))=[l[i]]:=by simp [e3]
    rw [f1,f2]
    simp
   | false=>
    obtain ⟨e1,e2⟩:=h1 rfl
    have p1:(l.take i).filter (fun x=>decide (x<n))=l.take i:=List.filter_eq_self.2 fun x hx=>by simpa using e2 x hx
    have p2:(l.take i).filter (fun x=>decide (n<x))=[]:=List.filter_eq_nil_iff.2 fun x hx=>by have:=e2 x hx;simp;omega
    by_cases c:l[i]≥n
    ·by_cases c2:l[i] >n
     ·have st:gm l n (false,(i:Int),out)=some (.inl (true,((i+1:Nat):Int),out++[n]++[l[i]])):=by
       unfold gm iY
       simp only
       rw [if_pos (by omega),if_neg (by decide),eu hi',Option.bind_some,Option.bind_some,decide_eq_true c,if_pos rfl,Option.bind_some,if_pos c2,yx (by rw [List.length_singleton];omega),Option.bind_some,Option.bind_some,yx (by rw [List.length_append,List.length_singleton,List.length_singleton];omega),Option.bind_some,bU (by omega)]
      rw [bT st]
      refine ih (i+1) true _ (by omega) (by rw [e1,List.length_append,List.length_append,List.length_singleton,List.length_singleton,List.length_take];omega) (fun h=>by cases h) fun _=>⟨?_,fun j hj hij=>by have:=hgt j hj hij;omega⟩
      rw [e1,htk]
      unfold pt
      rw [List.filter_append,List.filter_append,p1,p2]
      have f1:[l[i]].filter (fun x=>decide (x<n))=[]:=by simp;omega
      have f2:[l[i]].filter (fun x=>decide (n<x))=[l[i]]:=by simp;omega
      rw [f1,f2]
      simp
     ·have he:l[i]=n:=by omega
      have st:gm l n (false,(i:Int),out)=some (.inl (true,((i+1:Nat):Int),out++[l[i]])):=by
       unfold gm iY
       simp only
       rw [if_pos (by omega),if_neg (by decide),eu hi',Option.bind_some,Option.bind_some,decide_eq_true c,if_pos rfl,Option.bind_some,if_neg c2,Option.bind_some,yx (by rw [List.length_singleton];omega),Option.bind_some,bU (by omega)]
      rw [bT st]
      refine ih (i+1) true _ (by omega) (by rw [List.length_append,List.length_singleton];omega) (fun h=>by cases h) fun _=>⟨?_,fun j hj hij=>by have:=hgt j hj hij;omega⟩
      rw [e1,htk]
      unfold pt
      rw [List.filter_append,List.filter_append,p1,p2,he]
      simp
    ·have st:gm l n (false,(i:Int),out)=some (.inl (false,((i+1:Nat):Int),out++[l[i]])):=by
      unfold gm iY
      simp only
      rw [if_pos (by omega),if_neg (by decide),eu hi',Option.bind_some,Option.bind_some,decide_eq_false c,if_neg (by decide),Option.bind_some,yx (by rw [List.length_singleton];omega),Option.bind_some,bU (by omega)]
     rw [bT st]
     refine ih (i+1) false _ (by omega) (by rw [List.length_append,List.length_singleton];omega) (fun _=>⟨by rw [e1,htk],fun x hx=>?_⟩) fun h=>by cases h
     rw [htk] at hx
     rcases List.mem_append.1 hx with hx | hx
     ·exact e2 x hx
     ·rw [List.mem_singleton.1 hx];omega
 obtain ⟨d,o,q1,q2,q3⟩:=lp l.length 0 false [] (by omega) (by simp) (fun _=>⟨by simp,by simp⟩) (fun h=>by cases h)
 have q1:aG (gm l n) (false,0,[])=_:=q1
 unfold wW pq
 rw [q1]
 cases d with
 | true=>rw [q3 rfl];rfl
 | false=>
  obtain ⟨rfl,q4⟩:=q2 rfl
  simp only [Option.bind_some]
  rw [if_neg (by decide),yx (by rw [List.length_singleton];omega),Option.bind_some]
  unfold pt
  rw [List.filter_eq_self.2 fun x hx=>by simpa using q4 x hx,List.filter_eq_nil_iff.2 fun x hx=>by have:=q4 x hx;simp;omega,List.append_nil]
theorem Yo:∀(n:Nat) (k:Int) (out:ByteArray),k.toNat≤n→out.size+k.toNat≤4611686018427387904→∃r,aG lq (k,out)=some r∧r.size≤out.size+k.toNat:=by
 intro n
 induction n with
 | zero=>
  intro k out h1 h2
  refine ⟨out,aN ?_,by omega⟩
  unfold lq
  simp only
  rw [if_neg (by omega)]
 | succ n ih=>
  intro k out h1 h2
  by_cases c:k>0
  ·have e1:w64 (k.tdiv 10)=k.tdiv 10:=by
    rw [Int.tdiv_eq_ediv_of_nonneg (by omega)]
    exact fH (by omega) (by omega)
   have e2:k.tdiv 10=k / 10:=Int.tdiv_eq_ediv_of_nonneg (by omega)
   have hs:∀x:Int,(strOf [x]).size=1:=fun x=>rfl
   obtain ⟨r,hr,hr2⟩:=ih (k / 10) (strOf [IntKind.wrap .u8 (w64 (48+k.tmod 10))]++out) (by omega) (by rw [ByteArray.size_append,hs];omega)
   refine ⟨r,?_,?_⟩
   ·rw [bT (s':=(k / 10,strOf [IntKind.wrap .u8 (w64 (48+k.tmod 10))]++out)) ?_]
    ·exact hr
    ·unfold lq md dv
     simp only
     rw [if_pos c,if_neg (by decide),Option.bind_some,KJ (by rw [hs];omega),Option.bind_some,if_neg (by decide),Option.bind_some]
     have e3:IntKind.wrap .i64 (k.tdiv 10)=k / 10:=by rw [←e2];exact e1
     rw [e3]
   ·rw [ByteArray.size_append,hs] at hr2
    omega
  ·refine ⟨out,aN ?_,by omega⟩
   unfold lq
   simp only
   rw [if_neg c]
theorem UQ (k:Int) (h:k≤2305843009213693952):∃r,pW k=some r:=by
 unfold pW
 split
 ·exact ⟨_,rfl⟩
 ·obtain ⟨r,hr,hr2⟩:=Yo k.toNat k ⟨#[]⟩ (Nat.le_refl _) (by show 0+_≤_;omega)
  have h0:(⟨#[]⟩:ByteArray).size=0:=rfl
  have h1:(⟨#[109]⟩:ByteArray).size=1:=rfl
  rw [hr,Option.bind_some,KJ (by rw [h1];omega),Option.bind_some]
  exact ⟨_,rfl⟩
theorem Yp {α:Type} {f:Int×Int→Option ((Int×Int) ⊕ Int)} (l:List α) (c:Nat) (K:Int) (hl:l.length<4611686018427387904)
 (h1:∀(i:Nat) (hi:i<l.length) (k:Int),0≤k→k+c≤K→∃k',k≤k'∧k'≤k+c∧f (k,(i:Int))=some (.inl (k',w64 ((i:Int)+1))))
 (h2:∀k,f (k,(l.length:Int))=some (.inr k)) {k:Int} (h0:0≤k) (hk:k+((c*l.length:Nat):Int)≤K):∃r,aG f (k,0)=some r∧k≤r∧r≤k+((c*l.length:Nat):Int):=by
 have key:∀(n i:Nat) (k:Int),i+n=l.length→0≤k→k+((c*n:Nat):Int)≤K→∃r,aG f (k,(i:Int))=some r∧k≤r∧r≤k+((c*n:Nat):Int):=by
  intro n
  induction n with
  | zero=>
   intro i k hi h0 hk
   obtain rfl:i=l.length:=by omega
   exact ⟨k,aN (h2 k),Int.le_refl _,by omega⟩
  | succ n ih=>
   intro i k hi h0 hk
   have e:((c* (n+1):Nat):Int)=((c*n:Nat):Int)+c:=by rw [Nat.mul_succ];omega
   have hp:(0:Int)≤((c*n:Nat):Int):=by omega
   obtain ⟨k',q1,q2,q3⟩:=h1 i (by omega) k h0 (by omega)
   obtain ⟨r,r1,r2,r3⟩:=ih (i+1) k' (by omega) (by omega) (by omega)
   rw [bU (by omega)] at q3
   exact ⟨r,by rw [bT q3];exact r1,by omega,by omega⟩
 simpa using key l.length 0 k (by omega) h0 hk
theorem afC {d:aA} (h:jU d):d.bn.length≤1048576∧d.aB.length≤1048576∧∀x∈d.aB,x.Ring.length≤1048576:=by
 obtain ⟨_,_,⟨p,_⟩,⟨f,g⟩⟩:=h
 exact ⟨p,f,fun x hx=>(g x hx).2.1⟩
theorem V4 (l:List af) (h:l.length≤1048576) {k:Int} (h0:0≤k) (hk:k≤1152921504606846976):∃r,lS l k=some r∧k≤r∧r≤k+2097152:=by
 unfold lS
 obtain ⟨r,r1,r2,r3⟩:=Yp (f:=jF l) l 2 1152921504608944128 (by omega) (fun i hi k h0 hk=>⟨k+2,by omega,by omega,by
  unfold jF
  simp only
  rw [if_pos (by omega),eu hi,Option.bind_some,Option.bind_some,fH (n:=k+1) (by omega) (by omega),fH (n:=k+1+1) (by omega) (by omega)]
  congr 3
  omega⟩) (fun k=>by
  unfold jF
  simp only
  rw [if_neg (by omega)]) h0 (by omega)
 exact ⟨r,by rw [r1];rfl,r2,by omega⟩
theorem abz (l:List Int) (h:l.length≤1048576) {k:Int} (h0:0≤k) (hk:k≤2305843009213693952):∃r,lT l k=some r∧k≤r∧r≤k+1048576:=by
 unfold lT
 obtain ⟨r,r1,r2,r3⟩:=Yp (f:=jG l) l 1 2305843009214742528 (by omega) (fun i hi k h0 hk=>⟨k+1,by omega,by omega,by
  unfold jG
  simp only
  rw [if_pos (by omega),eu hi,Option.bind_some,fH (n:=k+1) (by omega) (by omega)]⟩) (fun k=>by
  unfold jG
  simp only
  rw [if_neg (by omega)]) h0 (by omega)
 exact ⟨r,by rw [r1];rfl,r2,by omega⟩
theorem Yq (l:List dn) (h:l.length≤1048576) (hr:∀x∈l,x.Ring.length≤1048576) {k:Int} (h0:0≤k) (hk:k≤1152921504608944128):∃r,qJ l k=some r∧k≤r∧r≤k+1099512676352:=by
 unfold qJ
 obtain ⟨r,r1,r2,r3⟩:=Yp (f:=mZ l) l 1048577 1152922604121620480 (by omega) (fun i hi k h0 hk=>by
  obtain ⟨t,ht⟩:=UQ k (by omega)
  obtain ⟨r,r1,r2,r3⟩:=abz l[i].Ring (hr _ (List.getElem_mem hi)) (k:=k+1) (by omega) (by omega)
  refine ⟨r,by omega,by omega,?_⟩
  unfold mZ
  simp only
  rw [if_pos (by omega),ht,Option.bind_some,eu hi,Option.bind_some,Option.bind_some,fH (n:=k+1) (by omega) (by omega),r1,Option.bind_some]) (fun k=>by
  unfold mZ
  simp only
  rw [if_neg (by omega)]) h0 (by omega)
 exact ⟨r,by rw [r1];rfl,r2,by omega⟩
theorem TP (d:aA) (hb:jU d) {k:Int} (h0:0≤k) (hk:k≤1048576):∃r,nZ d k=some r∧k≤r∧r≤k+1099514773504:=by
 obtain ⟨b1,b2⟩:=afC hb
 unfold nZ
 obtain ⟨r,r1,r2,r3⟩:=V4 d.bn b1 h0 (by omega)
 obtain ⟨q,q1,q2,q3⟩:=Yq d.aB b2.1 b2.2 (k:=r) (by omega) (by omega)
 exact ⟨q,by rw [r1,Option.bind_some,q1];rfl,by omega,by omega⟩
theorem abA (l:List Int) (h:l.length≤1073741824):pJ l 1=some (1+(l.length:Int),iota 1 l.length):=by
 unfold pJ
 rw [Y6 (f:=lU) l (k:=1) (by omega) (by omega) ?_ ?_]
 ·rfl
 ·intro k i out hi
  unfold lU
  simp only
  rw [if_pos (by omega),eu hi]
  simp
 ·intro k out
  unfold lU
  simp
theorem abB (n:Nat) (h:n≤1073741824):mg (iota 1 n) 1=some (1+(n:Int)):=by
 unfold mg
 rw [Y7 (f:=lV (iota 1 n)) (n:=n) (k:=1) (by omega) (by omega) ?_ ?_]
 ·rfl
 ·intro i hi
  unfold lV
  simp only
  rw [if_pos (by rw [mF];omega),KL,QG _ _ _ hi]
  simp
 ·unfold lV
  simp [mF]
theorem afD (l:List Int) (h:l.length≤1073741824):jl l l=some true:=by
 unfold jl
 rw [if_neg (by simp),Dl (n:=l.length) (by omega) (fun i hi=>?_) ?_]
 ·rfl
 ·unfold lg
  rw [if_neg (by omega)]
 ·unfold lg
  rw [if_pos (by omega),eu hi,Option.bind_some,Option.bind_some]
  simp
theorem adO (l:List ai) (hl:l.length≤1048576):oW l=some (l.all LQ):=by
 unfold oW
 rw [Ye (f:=lK l) l LQ hl (fun i hi=>by
  unfold lK
  rw [if_pos (by omega),eu hi,Option.bind_some,afy,Option.bind_some]) (by unfold lK;rw [if_neg (by omega)])]
 cases l.all LQ<;>rfl
def cgo (f:List Int→Int→Int×List Int×Int) (ok:List Int→Int→Bool) (G:List Int):Nat→Nat→Int→Int×List Int×Int
 | 0,_,L=>(3,[],L)
 | k+1,i,L=>if ok G (i:Int)=true then (if L=0 then (5,[],L) else
  if (f (G++[(i:Int)]) (L - 1)).1=3 then cgo f ok G k (i+1) (f (G++[(i:Int)]) (L - 1)).2.2 else f (G++[(i:Int)]) (L - 1))
  else cgo f ok G k (i+1) L
def csr (ok:List Int→Int→Bool) (p:Nat):Nat→List Int→Int→Int×List Int×Int
 | 0,G,L=>(0,G,L)
 | m+1,G,L=>cgo (csr ok p m) ok G p 0 L
def RCp (L:Int) (r:Int×List Int×Int):Prop:=0≤r.2.2∧r.2.2≤L∧(r.1=0∨(r.1=5∧r.2.1=[]∧r.2.2=0)∨(r.1=3∧r.2.1=[]))
theorem adP {f:List Int→Int→Int×List Int×Int} {ok:List Int→Int→Bool} {G:List Int} (hf:∀t L,0≤L→RCp L (f (G++[t]) L)):∀(k i:Nat) (L:Int),0≤L→RCp L (cgo f ok G k i L):=by
 intro k
 induction k with
 | zero=>intro i L h;exact ⟨h,Int.le_refl _,.inr (.inr ⟨rfl,rfl⟩)⟩
 | succ k ih=>
  intro i L h
  unfold cgo
  split
  ·split
   ·rename_i h0
    exact ⟨h,Int.le_refl _,.inr (.inl ⟨rfl,rfl,h0⟩)⟩
   ·have h1:=hf (i:Int) (L - 1) (by omega)
    split
    ·have h2:=ih (i+1) _ h1.1
     exact ⟨h2.1,by have:=h2.2.1;have:=h1.2.1;omega,h2.2.2⟩
    ·exact ⟨h1.1,by have:=h1.2.1;omega,h1.2.2⟩
  ·exact ih (i+1) L h
theorem LY {ok:List Int→Int→Bool} {p:Nat}:∀(m:Nat) (G:List Int) (L:Int),0≤L→RCp L (csr ok p m G L):=by
 intro m
 induction m with
 | zero=>intro G L h;exact ⟨h,Int.le_refl _,.inl rfl⟩
 | succ m ih=>intro G L h;exact adP (fun t L hL=>ih _ L hL) _ _ _ h
def okC (d:aA) (C:List ai) (limit most:Int) (G:List Int) (t:Int):Bool:=decide ((kn (G++[t]):Int)≤most)&&(jk d G.length d.aB.length).all (gdC C limit G t)
theorem Yr {d:aA} {C:List ai} {limit most:Int} {G:List Int} {t:Int} (h:okC d C limit most G t=true):(kn (G++[t]):Int)≤most:=by
 unfold okC at h
 rw [Bool.and_eq_true,decide_eq_true_eq] at h
 exact h.1
section
variable {d:aA} (hb:bR d) {C:List ai} (hC:∀x∈C,okV x) (hCl:C.length≤1048576)
theorem Rn {G:List Int} (hG:∀x∈G,0≤x∧x<C.length) {i:Nat} (hi:i<C.length):∀x∈G++[(i:Int)],0≤x∧x<C.length:=by
 intro x hx
 rcases List.mem_append.1 hx with h | h
 ·exact hG x h
 ·rw [List.mem_singleton.1 h];omega
include hb hC hCl in
theorem adQ {limit most L:Int} {G:List Int} (hG:∀x∈G,0≤x∧x<C.length) (hk:G.length<d.aB.length) (hm:(kn G:Int)≤most) {i:Nat} (hi:i<C.length) {L1:Int} (g0:0≤L1) (g1:L1≤20000):
 aU SCo G limit most ⟨nrC d,C,L⟩ (cmpL (sortL G)) ((i:Int),nrC d,C,L1)=if okC d C limit most G (i:Int)=true then
  (if L1=0 then some (.inr (.inr (([]:List Int),5,(⟨nrC d,C,L1⟩:aO)))) else (SCo (⟨nrC d,C,L1 - 1⟩,G++[(i:Int)],limit,most)).bind fun sV=>
    if sV.2.1≠3 then some (.inr (.inr (sV.1,sV.2.1,sV.2.2))) else some (.inl (((i+1:Nat):Int),sV.2.2.near,sV.2.2.iJ,sV.2.2.left)))
  else some (.inl (((i+1:Nat):Int),nrC d,C,L1)):=by
 have hF:=hb.1
 have hcl:(cmpL (sortL G)).length≤1048576:=Nat.le_trans (Gm _) (by rw [Ar];omega)
 have hmem:∀t,t∈cmpL (sortL G)↔t∈G:=fun t=>by rw [Bd,(BC G).mem_iff]
 have hnr:rd (nrC d) (G.length:Int)=some (jk d G.length d.aB.length):=by
  rw [eu (by rw [Ef];omega),List.getElem_map,List.getElem_range]
 have hgood:=Yn (s0:=SCo) hb hC (limit:=limit) hG (by omega) (t:=(i:Int)) (by omega) (by omega)
 have hcond:(if ((cmpL (sortL G)).length:Int)≥most then (dR (cmpL (sortL G)) (i:Int)).bind fun x49=>some (!x49) else some false)=some (!decide ((kn (G++[(i:Int)]):Int)≤most)):=by
  rw [Yl,JB,Rk _ _ hcl]
  by_cases c1:(kn G:Int)≥most
  ·rw [if_pos c1,Option.bind_some]
   by_cases c2:(i:Int)∈G
   ·rw [decide_eq_true ((hmem _).2 c2),if_pos c2,decide_eq_true hm]
   ·rw [decide_eq_false (fun h=>c2 ((hmem _).1 h)),if_neg c2,decide_eq_false (by omega)]
  ·rw [if_neg c1]
   split
   ·rw [decide_eq_true hm];rfl
   ·rw [decide_eq_true (by omega)];rfl
 unfold aU dG okC
 simp only
 rw [if_pos (by omega),hcond,Option.bind_some,bU (by omega),hnr,Option.bind_some,hgood,Option.bind_some]
 by_cases c1:(kn (G++[(i:Int)]):Int)≤most
 ·rw [decide_eq_true c1,if_neg (by decide),Bool.true_and]
  by_cases cL:L1=0
  ·rw [if_pos cL,if_pos cL]
  ·rw [if_neg cL,if_neg cL,yx (by simp only [List.length_nil];omega),Option.bind_some,List.nil_append,yx (by rw [List.length_singleton];omega),Option.bind_some,fH (n:=L1 - 1) (by omega) (by omega)]
 ·rw [decide_eq_false c1,if_pos (by decide),Bool.false_and,if_neg (by decide)]
include hb hC hCl in
theorem Yt (limit most:Int):∀(m:Nat) (G:List Int) (L:Int),G.length+m=d.aB.length→0≤L→L≤20000→(∀x∈G,0≤x∧x<C.length)→(kn G:Int)≤most→
 gy ⟨nrC d,C,L⟩ G limit most=some ((csr (okC d C limit most) C.length m G L).2.1,(csr (okC d C limit most) C.length m G L).1,⟨nrC d,C,(csr (okC d C limit most) C.length m G L).2.2⟩):=by
 have hF:=hb.1
 intro m
 induction m with
 | zero=>
  intro G L hl h0 h1 hG hk
  rw [PL]
  unfold dH
  simp only
  rw [if_pos (by rw [Ef];omega)]
  rfl
 | succ m ih=>
  intro G L hl h0 h1 hG hk
  rw [PL]
  unfold dH
  simp only
  have hs1:KO G=some (sortL G):=by unfold KO;rw [if_pos (by omega)]
  have hs2:SE (sortL G)=some (cmpL (sortL G)):=by unfold SE;rw [if_pos (by rw [Ar];omega)]
  rw [if_neg (by rw [Ef];omega),yx (by simp only [List.length_nil];omega),Option.bind_some,List.nil_append,hs1,Option.bind_some,hs2,Option.bind_some]
  have lp:∀(k i:Nat) (L1:Int),i+k=C.length→0≤L1→L1≤20000→
   aG (aU SCo G limit most ⟨nrC d,C,L⟩ (cmpL (sortL G))) ((i:Int),nrC d,C,L1)=
    some (if (cgo (csr (okC d C limit most) C.length m) (okC d C limit most) G k i L1).1=3 then .inl (nrC d,C,(cgo (csr (okC d C limit most) C.length m) (okC d C limit most) G k i L1).2.2)
     else .inr ((cgo (csr (okC d C limit most) C.length m) (okC d C limit most) G k i L1).2.1,(cgo (csr (okC d C limit most) C.length m) (okC d C limit most) G k i L1).1,⟨nrC d,C,(cgo (csr (okC d C limit most) C.length m) (okC d C limit most) G k i L1).2.2⟩)):=by
   intro k
   induction k with
   | zero=>
    intro i L1 hi g0 g1
    refine aN ?_
    unfold aU
    simp only
    rw [if_neg (by omega)]
    rfl
   | succ k ihk=>
    intro i L1 hi g0 g1
    have hi':i<C.length:=by omega
    have st:=adQ hb hC hCl (limit:=limit) (most:=most) (L:=L) hG (by omega) hk hi' g0 g1
    unfold cgo
    by_cases c1:okC d C limit most G (i:Int)=true
    ·rw [if_pos c1] at st
     simp only [if_pos c1]
     by_cases cL:L1=0
     ·rw [if_pos cL] at st
      simp only [if_pos cL]
      exact aN st
     ·rw [if_neg cL] at st
      simp only [if_neg cL]
      have hr:=ih (G++[(i:Int)]) (L1 - 1) (by rw [List.length_append,List.length_singleton];omega) (by omega) (by omega) (Rn hG hi') (Yr c1)
      have hR:=LY (ok:=okC d C limit most) (p:=C.length) m (G++[(i:Int)]) (L1 - 1) (by omega)
      generalize csr (okC d C limit most) C.length m (G++[(i:Int)]) (L1 - 1)=r at hr hR
      have hr:SCo (⟨nrC d,C,L1 - 1⟩,G++[(i:Int)],limit,most)=some (r.2.1,r.1,⟨nrC d,C,r.2.2⟩):=hr
      rw [hr,Option.bind_some] at st
      by_cases c3:r.1=3
      ·simp only [c3,ne_eq,not_true,if_false] at st
       simp only [if_pos c3]
       rw [bT st]
       exact ihk (i+1) r.2.2 (by omega) hR.1 (by have:=hR.2.1;omega)
      ·simp only [ne_eq,c3,not_false_eq_true,if_true] at st
       simp only [if_neg c3]
       exact aN st
    ·rw [if_neg c1] at st
     simp only [if_neg c1]
     rw [bT st]
     exact ihk (i+1) L1 (by omega) g0 g1
  have q1:aG (aU SCo G limit most ⟨nrC d,C,L⟩ (cmpL (sortL G))) (0,nrC d,C,L)=_:=lp C.length 0 L (by omega) h0 h1
  have hR:=LY (ok:=okC d C limit most) (p:=C.length) (m+1) G L h0
  rw [q1]
  show (Option.bind (some (if (csr (okC d C limit most) C.length (m+1) G L).1=3 then _ else _)) _)=_
  by_cases c3:(csr (okC d C limit most) C.length (m+1) G L).1=3
  ·have:(csr (okC d C limit most) C.length (m+1) G L).2.1=[]:=by
    rcases hR.2.2 with h | h | h
    ·omega
    ·omega
    ·exact h.2
   rw [if_pos c3,this,c3]
   rfl
  ·rw [if_neg c3]
   rfl
end
def GN (d:aA) (k:Nat):List Int:=(jk d k d.aB.length).filter fun m=>decide (m< (k:Int))
abbrev bef (d:aA):List (List Int):=(List.range d.aB.length).map (GN d)
abbrev rC (C:List ai):List (List Int):=C.map fun a=>C.map fun b=>ctP a b
theorem PO (d:aA):(bef d).length=d.aB.length:=by rw [List.length_map,List.length_range]
abbrev FSp:=aH→Option (Bool×aH)
theorem adR (x:aH):Fs (fun self:FSp=>gu self x):=by
 have k6:∀a b c d e f g h i,Fs (fun self:FSp=>fK self a b c d e f g h i):=by
  intros
  unfold fK
  exact Fs.const _
 have k20:∀a b c d e f g h i j,Fs (fun self:FSp=>bI self a b c d e f g h i j):=by
  intros
  unfold bI
  exact Fs.ite (Fs.const _) (Fs.bind (Fs.const _) fun _=>Fs.bind (Fs.app _) fun _=>Fs.ite (Fs.const _) (Fs.bind (Fs.const _) fun _=>k6 _ _ _ _ _ _ _ _ _))
 unfold gu
 refine Fs.ite (Fs.const _) (Fs.bind (Fs.loop (fun s=>?_) _) fun _=>Fs.const _)
 obtain ⟨a1,a2,a3,a4,a5,a6,a7,a8,a9⟩:=s
 unfold dB
 refine Fs.ite (Fs.bind (Fs.loop (fun s=>?_) _) fun _=>Fs.bind (Fs.const _) fun _=>Fs.bind (Fs.loop (fun s=>?_) _) fun _=>Fs.ite (Fs.ite (k20 _ _ _ _ _ _ _ _ _ _) (k20 _ _ _ _ _ _ _ _ _ _)) (k6 _ _ _ _ _ _ _ _ _)) (Fs.const _)
 ·obtain ⟨b1,b2⟩:=s
  unfold fM
  exact Fs.const _
 ·obtain ⟨b1,b2⟩:=s
  unfold dQ
  exact Fs.const _
noncomputable abbrev SSp:FSp:=fun x=>jb x
theorem Yu (x:aH):jb x=gu SSp x:=by
 show Bv _ _=_
 rw [OB]
 ·rfl
 ·intro x
  exact adR x
section
variable {d:aA} (hb:bR d) {C:List ai} (hC:∀x∈C,okV x) (hCl:C.length≤10)
include hCl in
theorem adS {s0:FSp} {x0:aH} {G:List Int} (hx:x0.choice=G) (hl:G.length≤1048576) (hG:∀x∈G,0≤x∧x<C.length):
 ∃U,aG (fM s0 x0 G) (0,[])=some U∧U.length=kn G∧∀x,x∈U↔x∈G:=by
 have ln:∀{U H:List Int},U.Pairwise (· < ·)→(∀x,x∈U↔x∈H)→U.length=kn H:=by
  intro U H h1 h2
  unfold kn
  refine ((List.perm_ext_iff_of_nodup (h1.imp fun h=>by omega) (LX H)).2 fun a=>?_).length_eq
  rw [h2,LW]
 have lp:∀(k i:Nat) (U:List Int),i+k=G.length→U.Pairwise (· < ·)→(∀x,x∈U↔x∈G.take i)→
  ∃U',aG (fM s0 x0 G) ((i:Int),U)=some U'∧U'.Pairwise (· < ·)∧∀x,x∈U'↔x∈G:=by
  intro k
  induction k with
  | zero=>
   intro i U hi h1 h2
   refine ⟨U,aN ?_,h1,fun x=>by rw [h2,List.take_of_length_le (by omega)]⟩
   unfold fM
   simp only
   rw [hx,if_neg (by omega)]
  | succ k ih=>
   intro i U hi h1 h2
   have hi':i<G.length:=by omega
   have hk:=UO (G.take i) C.length fun x hx=>hG x (List.mem_of_mem_take hx)
   have hU:=ln h1 h2
   have st:fM s0 x0 G ((i:Int),U)=some (.inl (((i+1:Nat):Int),pt U G[i])):=by
    unfold fM
    simp only
    rw [hx,if_pos (by omega),eu hi',Option.bind_some,adN (by omega) h1,Option.bind_some,bU (by omega)]
   rw [bT st]
   refine ih (i+1) (pt U G[i]) (by omega) (adM h1) fun x=>?_
   rw [adL,h2,List.take_succ_eq_append_getElem hi',List.mem_append,List.mem_singleton]
 obtain ⟨U,q1,q2,q3⟩:=lp G.length 0 [] (by omega) .nil (by simp)
 exact ⟨U,q1,ln q2 q3,q3⟩
theorem adT {i j:Int} (h0:0≤i) (h1:i<C.length) (g0:0≤j) (g1:j<C.length):rd (rC C) i=some (C.map fun b=>ctP (gC C i) b)∧rd (C.map fun b=>ctP (gC C i) b) j=some (ctP (gC C i) (gC C j)):=by
 have e:∀{i:Int},0≤i→i<C.length→∃(k:Nat) (h:k<C.length),i=(k:Int)∧gC C i=C[k]:=by
  intro i h0 h1
  refine ⟨i.toNat,by omega,by omega,?_⟩
  unfold gC
  rw [List.getD_eq_getElem?_getD,List.getElem?_eq_getElem (by omega)];rfl
 obtain ⟨k,hk,rfl,ek⟩:=e h0 h1
 obtain ⟨l,hl,rfl,el⟩:=e g0 g1
 rw [ek,el]
 constructor
 ·rw [eu (by rw [List.length_map];exact hk),List.getElem_map]
 ·rw [eu (by rw [List.length_map];exact hl),List.getElem_map]
def bfC (C:List ai) (limit:Int) (G:List Int) (t:Int) (m:Int):Bool:=decide (ctP (gC C t) (gC C (G.getD m.toNat 0))≥limit)
theorem Yv {k:Nat} {m:Int} (h:m∈GN d k):0≤m∧m<k:=by
 obtain ⟨h1,h2⟩:=List.mem_filter.1 h
 exact ⟨(NS h1).1,by simpa using h2⟩
theorem abC {limit:Int} {G:List Int} {t:Int}:(jk d G.length d.aB.length).all (gdC C limit G t)=(GN d G.length).all (bfC C limit G t):=by
 unfold GN
 rw [List.all_filter]
 congr 1
 funext m
 unfold gdC bfC
 have e:(!decide (m< (G.length:Int)))=decide (m≥(G.length:Int)):=by
  rw [←decide_not]
  exact decide_eq_decide.2 (by omega)
 rw [e]
include hb in
theorem adU {s0:FSp} {x0:aH} {limit:Int} {G:List Int} (hx:x0.choice=G) (hG:∀x∈G,0≤x∧x<C.length) (hk:G.length<d.aB.length) {t:Int} (t0:0≤t) (t1:t<C.length) (fine:Bool):
 aG (dQ s0 t x0 (bef d) (rC C) limit G) (fine,0)=some (fine&&(GN d G.length).all (bfC C limit G t)):=by
 have hF:=hb.1
 have hbl:(GN d G.length).length≤d.aB.length:=Nat.le_trans (List.length_filter_le _ _) (Ee d G.length d.aB.length)
 have hrd:rd (bef d) (G.length:Int)=some (GN d G.length):=by
  rw [eu (by rw [PO];omega),List.getElem_map,List.getElem_range]
 have lp:∀(k j:Nat) (fine:Bool),j+k=(GN d G.length).length→aG (dQ s0 t x0 (bef d) (rC C) limit G) (fine,(j:Int))=some (fine&&((GN d G.length).drop j).all (bfC C limit G t)):=by
  intro k
  induction k with
  | zero=>
   intro j fine hj
   refine aN ?_
   unfold dQ
   simp only
   rw [hx,hrd,Option.bind_some,if_neg (fun h=>by have:=h.1;omega),List.drop_of_length_le (by omega)]
   simp
  | succ k ih=>
   intro j fine hj
   have hj':j< (GN d G.length).length:=by omega
   cases fine with
   | false=>
    refine aN ?_
    unfold dQ
    simp only
    rw [hx,hrd,Option.bind_some,if_neg (fun h=>by have:=h.2;cases this)]
    rfl
   | true=>
    obtain ⟨m0,m1⟩:=Yv (List.getElem_mem hj')
    have st:dQ s0 t x0 (bef d) (rC C) limit G (true,(j:Int))=some (.inl (bfC C limit G t (GN d G.length)[j],((j+1:Nat):Int))):=by
     unfold dQ
     simp only
     rw [hx,hrd,Option.bind_some,if_pos ⟨by omega,trivial⟩]
     simp only [Option.bind_some]
     rw [eu hj',bU (by omega)]
     simp only [Option.bind_some]
     generalize (GN d G.length)[j]=m at m0 m1
     obtain ⟨i,rfl⟩:∃i:Nat,m=(i:Int):=⟨m.toNat,by omega⟩
     have hi:i<G.length:=by omega
     have eg:G.getD ((i:Int)).toNat 0=G[i]:=by rw [Int.toNat_natCast,List.getD_eq_getElem?_getD,List.getElem?_eq_getElem hi];rfl
     obtain ⟨g0,g1⟩:=hG _ (List.getElem_mem hi)
     obtain ⟨a1,a2⟩:=adT t0 t1 g0 g1
     unfold bfC
     rw [a1,Option.bind_some,eu hi,Option.bind_some,a2,Option.bind_some,eg]
    rw [bT st,ih (j+1) _ (by omega),←List.getElem_cons_drop hj',List.all_cons,Bool.true_and]
 have:=lp (GN d G.length).length 0 fine (by omega)
 rw [List.drop_zero] at this
 exact this
def Asks (p:Nat) (mS mI:Int):Prop:=∀(G:List Int) (t:Int),(∀x∈G,0≤x∧x<p)→0≤t→t<p→(kn G:Int)≤mI→((t∈G∨(kn G:Int) <mS)↔(kn (G++[t]):Int)≤mI)
theorem Ro (p:Nat) (hp:p≤10):Asks p 10 p:=by
 intro G t hG h0 h1 hk
 have h2:kn (G++[t])≤p:=UO _ p fun x hx=>by
  rcases List.mem_append.1 hx with h | h
  ·exact hG x h
  ·rw [List.mem_singleton.1 h];exact ⟨h0,h1⟩
 refine ⟨fun _=>by omega,fun _=>?_⟩
 by_cases c:t∈G
 ·exact .inl c
 ·rw [JB,if_neg c] at h2
  exact .inr (by omega)
include hb hCl in
theorem Yw {x0:aH} {limit mS mI N B:Int} {G:List Int} (hA:Asks C.length mS mI) (hx:x0.choice=G) (hG:∀x∈G,0≤x∧x<C.length) (hk:G.length<d.aB.length) (hm:(kn G:Int)≤mI) {i:Nat} (hi:i<C.length) (fl:Bool):
 dB SSp x0 ((i:Int),bef d,rC C,limit,mS,G,N,B,fl)=if okC d C limit mI G (i:Int)=true then
  (if N=B then bI SSp (i:Int) x0 (bef d) (rC C) limit mS G N B true else bI SSp (i:Int) x0 (bef d) (rC C) limit mS G N B fl)
  else some (.inl (((i+1:Nat):Int),bef d,rC C,limit,mS,G,N,B,fl)):=by
 have hF:=hb.1
 obtain ⟨U,u1,u2,u3⟩:=adS hCl (s0:=SSp) hx (by omega) hG
 have hU:U.length≤10:=by
  have:=UO G C.length hG
  omega
 have afE:(decide ((i:Int)∈U)||decide ((U.length:Int) <mS))=decide ((kn (G++[(i:Int)]):Int)≤mI):=by
  rw [←Bool.decide_or]
  exact decide_eq_decide.2 (by rw [u2,u3];exact hA G (i:Int) hG (by omega) (by omega) hm)
 unfold dB fK
 simp only
 rw [if_pos (by rw [List.length_map];omega),u1,Option.bind_some,Yk _ _ (by omega),Option.bind_some,afE,adU hb hx hG hk (by omega) (by omega),Option.bind_some,←abC,bU (by omega)]
 rfl
theorem Yx {x0:aH} {limit mS N B:Int} {G:List Int} {fl:Bool}:dB SSp x0 ((C.length:Int),bef d,rC C,limit,mS,G,N,B,fl)=some (.inr (.inl (bef d,rC C,limit,mS,G,N,B,fl))):=by
 unfold dB
 simp only
 rw [if_neg (by rw [List.length_map];omega)]
include hb hCl in
theorem adV {x0:aH} {limit mS mI N B:Int} {G:List Int} (hA:Asks C.length mS mI) (hx:x0.choice=G) (hG:∀x∈G,0≤x∧x<C.length) (hk:G.length<d.aB.length) (hm:(kn G:Int)≤mI):∀(k i:Nat),i+k=C.length→
 aG (dB SSp x0) ((i:Int),bef d,rC C,limit,mS,G,N,B,true)=some (.inl (bef d,rC C,limit,mS,G,N,B,true))∨
 aG (dB SSp x0) ((i:Int),bef d,rC C,limit,mS,G,N,B,true)=some (.inr (false,⟨bef d,rC C,limit,mS,G,N,B,true⟩)):=by
 intro k
 induction k with
 | zero=>
  intro i hi
  obtain rfl:i=C.length:=by omega
  exact .inl (aN Yx)
 | succ k ih=>
  intro i hi
  have st:=Yw hb hCl (x0:=x0) (limit:=limit) (N:=N) (B:=B) hA hx hG hk hm (i:=i) (by omega) true
  by_cases c1:okC d C limit mI G (i:Int)=true
  ·rw [if_pos c1,ite_self] at st
   refine .inr (aN (st.trans ?_))
   unfold bI
   rw [if_pos rfl]
  ·rw [if_neg c1] at st
   rw [bT st]
   exact ih (i+1) (by omega)
include hb hCl in
theorem ab7 {limit mS mI B:Int} (hB:B≤20000) (hA:Asks C.length mS mI):∀(m:Nat) (G:List Int) (L:Int),G.length+m=d.aB.length→0≤L→L≤B→(∀x∈G,0≤x∧x<C.length)→(kn G:Int)≤mI→
 jb ⟨bef d,rC C,limit,mS,G,B - L,B,false⟩=some (decide ((csr (okC d C limit mI) C.length m G L).1=0),
  ⟨bef d,rC C,limit,mS,if (csr (okC d C limit mI) C.length m G L).1=0 then (csr (okC d C limit mI) C.length m G L).2.1 else G,B - (csr (okC d C limit mI) C.length m G L).2.2,B,decide ((csr (okC d C limit mI) C.length m G L).1=5)⟩):=by
 have hF:=hb.1
 intro m
 induction m with
 | zero=>
  intro G L hl h0 h1 hG hk
  rw [Yu]
  unfold gu
  simp only
  rw [if_pos (by rw [PO];omega)]
  rfl
 | succ m ih=>
  intro G L hl h0 h1 hG hk
  rw [Yu]
  unfold gu
  simp only
  rw [if_neg (by rw [PO];omega)]
  have hkl:G.length<d.aB.length:=by omega
  generalize hx0:(⟨bef d,rC C,limit,mS,G,B - L,B,false⟩:aH)=x0
  have hx:x0.choice=G:=by rw [←hx0]
  have lp:∀(k i:Nat) (L1:Int),i+k=C.length→0≤L1→L1≤B→
   ∃o,aG (dB SSp x0) ((i:Int),bef d,rC C,limit,mS,G,B - L1,B,false)=some o∧
    (∀r,r=cgo (csr (okC d C limit mI) C.length m) (okC d C limit mI) G k i L1→
      (match o with
        | .inl (a,b,c,e,f,g,h,l)=>(some (false,(⟨a,b,c,e,f,g,h,l⟩:aH)))
        | .inr r2=>some r2)=some (decide (r.1=0),⟨bef d,rC C,limit,mS,if r.1=0 then r.2.1 else G,B - r.2.2,B,decide (r.1=5)⟩)):=by
   intro k
   induction k with
   | zero=>
    intro i L1 hi g0 g1
    obtain rfl:i=C.length:=by omega
    refine ⟨_,aN Yx,fun r hr=>?_⟩
    subst hr
    rfl
   | succ k ihk=>
    intro i L1 hi g0 g1
    have hi':i<C.length:=by omega
    have st:=Yw hb hCl (x0:=x0) (limit:=limit) (N:=B - L1) (B:=B) hA hx hG hkl hk hi' false
    unfold cgo
    by_cases c1:okC d C limit mI G (i:Int)=true
    ·rw [if_pos c1] at st
     simp only [if_pos c1]
     by_cases cL:L1=0
     ·rw [if_pos (by omega)] at st
      simp only [if_pos cL]
      refine ⟨_,aN (st.trans (by unfold bI;rw [if_pos rfl])),fun r hr=>?_⟩
      subst hr
      rfl
     ·rw [if_neg (by omega)] at st
      simp only [if_neg cL]
      have hr:=ih (G++[(i:Int)]) (L1 - 1) (by rw [List.length_append,List.length_singleton];omega) (by omega) (by omega) (Rn hG hi') (Yr c1)
      have hR:=LY (ok:=okC d C limit mI) (p:=C.length) m (G++[(i:Int)]) (L1 - 1) (by omega)
      generalize csr (okC d C limit mI) C.length m (G++[(i:Int)]) (L1 - 1)=r at hr hR
      have hr:SSp ⟨bef d,rC C,limit,mS,G++[(i:Int)],B - (L1 - 1),B,false⟩=_:=hr
      have hkk:bI SSp (i:Int) x0 (bef d) (rC C) limit mS G (B - L1) B false=if r.1=0 then some (.inr (.inr (true,⟨bef d,rC C,limit,mS,r.2.1,B - r.2.2,B,false⟩))) else some (.inl (((i+1:Nat):Int),bef d,rC C,limit,mS,G,B - r.2.2,B,decide (r.1=5))):=by
       unfold bI fK
       rw [if_neg (by decide),yx (by rw [List.length_singleton];omega),Option.bind_some,fH (n:=B - L1+1) (by omega) (by omega),show B - L1+1=B - (L1 - 1) by omega,hr,Option.bind_some,bU (by omega)]
       by_cases c0:r.1=0
       ·simp only [c0,decide_true,if_true]
        rfl
       ·simp only [c0,decide_false,Bool.false_eq_true,if_false,hx]
        unfold slc
        rw [if_pos (by rw [List.length_append,List.length_singleton];omega)]
        simp
      rw [hkk] at st
      by_cases c0:r.1=0
      ·rw [if_pos c0] at st
       refine ⟨_,aN st,fun q hq=>?_⟩
       rw [if_neg (by omega)] at hq
       subst hq
       simp only [c0,decide_true,if_true]
       rfl
      ·rw [if_neg c0] at st
       rw [bT st]
       rcases hR.2.2 with h | ⟨h5,h6,h7⟩ | ⟨h3,h4⟩
       ·exact absurd h c0
       ·rw [show decide (r.1=5)=true by simp [h5]]
        rcases adV hb hCl (x0:=x0) (limit:=limit) (N:=B - r.2.2) (B:=B) hA hx hG hkl hk k (i+1) (by omega) with e | e
        ·refine ⟨_,e,fun q hq=>?_⟩
         rw [if_neg (by omega)] at hq
         subst hq
         simp [h5]
        ·refine ⟨_,e,fun q hq=>?_⟩
         rw [if_neg (by omega)] at hq
         subst hq
         simp [h5]
       ·rw [show decide (r.1=5)=false by simp [h3]]
        obtain ⟨o,o1,o2⟩:=ihk (i+1) r.2.2 (by omega) hR.1 (by have:=hR.2.1;omega)
        refine ⟨o,o1,fun q hq=>?_⟩
        rw [if_pos h3] at hq
        exact o2 q hq
    ·rw [if_neg c1] at st
     simp only [if_neg c1]
     rw [bT st]
     exact ihk (i+1) L1 (by omega) g0 g1
  obtain ⟨o,o1,o2⟩:=lp C.length 0 L (by omega) h0 h1
  have o1:aG (dB SSp x0) (0,bef d,rC C,limit,mS,G,B - L,B,false)=some o:=o1
  rw [o1,Option.bind_some]
  exact o2 _ rfl
end
def GR (d:aA) (k n:Nat):List Nat:=(List.range n).filter fun m=>decide (m≠k)&&fc (rg d k) (rg d m)
theorem abD (d:aA) (k n:Nat):jk d k n=(GR d k n).map fun m:Nat=>(m:Int):=rfl
def MP (p:Nat×Nat):List Int:=[(p.1:Int),(p.2:Int)]
def pkN (d:aA) (k:Nat):List (Nat×Nat):=((GR d k d.aB.length).filter fun m=>decide (k<m)).map fun m=>(k,m)
def PN (d:aA) (t:Nat):List (Nat×Nat):=(List.range t).flatMap (pkN d)
theorem UR (d:aA) (t:Nat):PN d (t+1)=PN d t++pkN d t:=by
 unfold PN
 rw [List.range_succ,List.flatMap_append,List.flatMap_singleton]
theorem pk_len (d:aA) (k:Nat):(pkN d k).length≤d.aB.length:=by
 unfold pkN
 rw [List.length_map]
 refine Nat.le_trans (List.length_filter_le _ _) ?_
 unfold GR
 refine Nat.le_trans (List.length_filter_le _ _) ?_
 rw [List.length_range]
 exact Nat.le_refl _
theorem adW (d:aA) (t:Nat):(PN d t).length≤t*d.aB.length:=by
 induction t with
 | zero=>unfold PN;simp
 | succ t ih=>
  have:=pk_len d t
  rw [UR,List.length_append,Nat.succ_mul]
  omega
theorem Yy (k:Nat) (l:List Nat) (out:List (List Int)) (hl:l.length≤1048576) (ho:out.length+l.length≤5000000000000):
 aG (iK (k:Int) (l.map fun m:Nat=>(m:Int))) (0,out)=some (out++((l.filter fun m=>decide (k<m)).map fun m=>(k,m)).map MP):=by
 have lp:∀(r i:Nat) (out:List (List Int)),i+r=l.length→out.length+r≤5000000000000→
  aG (iK (k:Int) (l.map fun m:Nat=>(m:Int))) ((i:Int),out)=some (out++(((l.drop i).filter fun m=>decide (k<m)).map fun m=>(k,m)).map MP):=by
  intro r
  induction r with
  | zero=>
   intro i out hi ho
   refine aN ?_
   unfold iK
   simp only
   rw [List.length_map,if_neg (by omega),List.drop_of_length_le (by omega)]
   simp
  | succ r ih=>
   intro i out hi ho
   have hi':i<l.length:=by omega
   have hrd:rd (l.map fun m:Nat=>(m:Int)) (i:Int)=some (l[i]:Int):=by rw [eu (by rw [List.length_map];exact hi'),List.getElem_map]
   by_cases c:k<l[i]
   ·have st:iK (k:Int) (l.map fun m:Nat=>(m:Int)) ((i:Int),out)=some (.inl (((i+1:Nat):Int),out++[MP (k,l[i])])):=by
     unfold iK kX
     simp only
     rw [List.length_map,if_pos (by omega),hrd,Option.bind_some,if_pos (by omega),Option.bind_some,yx (by rw [List.length_singleton];omega),Option.bind_some,bU (by omega)]
     rfl
    rw [bT st,ih (i+1) _ (by omega) (by rw [List.length_append,List.length_singleton];omega),←List.getElem_cons_drop hi',List.filter_cons,if_pos (by simpa using c),List.map_cons,List.map_cons,List.append_assoc]
    rfl
   ·have st:iK (k:Int) (l.map fun m:Nat=>(m:Int)) ((i:Int),out)=some (.inl (((i+1:Nat):Int),out)):=by
     unfold iK kX
     simp only
     rw [List.length_map,if_pos (by omega),hrd,Option.bind_some,if_neg (by omega),bU (by omega)]
    rw [bT st,ih (i+1) _ (by omega) (by omega),←List.getElem_cons_drop hi',List.filter_cons,if_neg (by simpa using c)]
 have:=lp l.length 0 out (by omega) ho
 rw [List.drop_zero] at this
 exact this
theorem V5 (d:aA) (k n:Nat):(GR d k n).length≤n:=by
 unfold GR
 refine Nat.le_trans (List.length_filter_le _ _) ?_
 rw [List.length_range]
 exact Nat.le_refl _
theorem ab8 {d:aA} (hF:d.aB.length≤1048576) {t:Nat} (ht:t≤d.aB.length):(PN d t).length≤1099511627776:=by
 refine Nat.le_trans (adW d t) ?_
 have:=Nat.mul_le_mul (Nat.le_trans ht hF) hF
 omega
theorem abE {d:aA} (hb:bR d):sO d=some ((PN d d.aB.length).map MP):=by
 have hF:=hb.1
 have q:aG (kZ d) (0,[])=some ((PN d d.aB.length).map MP):=by
  refine jw (f:=kZ d) (fun t:Nat=>((t:Int),(PN d t).map MP)) d.aB.length (r:=(PN d d.aB.length).map MP) (fun t ht=>?_) ?_
  ·have hl:=ab8 hF (t:=t) (by omega)
   have hn:=V5 d t d.aB.length
   unfold kZ
   simp only
   rw [if_pos (by omega),VW hb ht,Option.bind_some,abD,Yy t _ _ (by omega) (by rw [List.length_map];omega),Option.bind_some,bU (by omega),UR,List.map_append]
   rfl
  ·unfold kZ
   simp only
   rw [if_neg (by omega)]
 unfold sO
 rw [q]
 rfl
def rwN (n:Nat) (Q:List (Nat×Nat)):List (List Int):=(List.range n).map fun m=>Q.filterMap fun p=>if p.2=m then some (p.1:Int) else none
theorem PR (n:Nat) (Q:List (Nat×Nat)):(rwN n Q).length=n:=by unfold rwN;rw [List.length_map,List.length_range]
theorem UT (n:Nat) (Q:List (Nat×Nat)) (i:Nat) (h:i< (rwN n Q).length):(rwN n Q)[i]=Q.filterMap fun p=>if p.2=i then some (p.1:Int) else none:=by
 simp only [rwN,List.getElem_map,List.getElem_range]
theorem Yz (n:Nat) (Q:List (Nat×Nat)) (p:Nat×Nat) (hp:p.2<n):rwN n (Q++[p])=(rwN n Q).set p.2 ((Q.filterMap fun q=>if q.2=p.2 then some (q.1:Int) else none)++[(p.1:Int)]):=by
 refine List.ext_getElem (by rw [List.length_set,PR,PR]) fun i h1 h2=>?_
 rw [List.getElem_set,UT,List.filterMap_append]
 by_cases c:p.2=i
 ·subst c
  rw [if_pos rfl]
  simp
 ·rw [if_neg c,UT]
  simp [c]
theorem adX {L:List Nat} (hL:L.Nodup) (k m:Nat):((L.map fun m'=>(k,m')).filterMap fun p=>if p.2=m then some (p.1:Int) else none)=if m∈L then [(k:Int)] else []:=by
 induction L with
 | nil=>rfl
 | cons a L ih=>
  have hn:=List.nodup_cons.1 hL
  rw [List.map_cons,List.filterMap_cons,ih hn.2]
  by_cases c:a=m
  ·subst c
   simp [hn.1]
  ·have c':¬m=a:=fun e=>c e.symm
   simp [c,c']
theorem YA (c:Nat→Bool):∀L:List Nat,(L.flatMap fun k=>if c k=true then [(k:Int)] else [])=(L.filter c).map fun k:Nat=>(k:Int)
 | []=>rfl
 | a::L=>by
  rw [List.flatMap_cons,YA c L,List.filter_cons]
  cases c a<;>rfl
theorem abG (d:aA):rwN d.aB.length (PN d d.aB.length)=bef d:=by
 unfold rwN
 refine List.map_congr_left fun m hm=>?_
 have hm:=List.mem_range.1 hm
 unfold PN
 rw [List.filterMap_flatMap]
 have e:∀k∈List.range d.aB.length,((pkN d k).filterMap fun p=>if p.2=m then some (p.1:Int) else none)=if (decide (k≠m)&&fc (rg d m) (rg d k)&&decide (k<m))=true then [(k:Int)] else []:=by
  intro k hk
  have hnd:(GR d k d.aB.length).Nodup:=by
   unfold GR
   exact List.nodup_range.filter _
  unfold pkN
  rw [adX (hnd.filter _)]
  have:(m∈(GR d k d.aB.length).filter fun m=>decide (k<m))↔(decide (k≠m)&&fc (rg d m) (rg d k)&&decide (k<m))=true:=by
   unfold GR
   rw [List.mem_filter,List.mem_filter,List.mem_range,abw (rg d k) (rg d m)]
   simp only [Bool.and_eq_true,decide_eq_true_eq]
   constructor
   ·rintro ⟨⟨_,h1,h2⟩,h3⟩
    exact ⟨⟨fun e=>h1 e.symm,h2⟩,h3⟩
   ·rintro ⟨⟨h1,h2⟩,h3⟩
    exact ⟨⟨hm,fun e=>h1 e.symm,h2⟩,h3⟩
  simp only [this]
 have e2:((List.range d.aB.length).flatMap fun k=>(pkN d k).filterMap fun p=>if p.2=m then some (p.1:Int) else none)=(List.range d.aB.length).flatMap fun k=>if (decide (k≠m)&&fc (rg d m) (rg d k)&&decide (k<m))=true then [(k:Int)] else []:=by
  rw [List.flatMap_def,List.flatMap_def,List.map_congr_left e]
 rw [e2,YA fun k=>decide (k≠m)&&fc (rg d m) (rg d k)&&decide (k<m)]
 unfold GN jk
 rw [List.filter_map,List.filter_filter]
 congr 1
 refine List.filter_congr fun k _=>?_
 show _=(decide ((k:Int) < (m:Int))&&(decide (k≠m)&&fc (rg d m) (rg d k)))
 rw [Bool.and_comm,show decide (k<m)=decide ((k:Int) < (m:Int)) from decide_eq_decide.2 (by omega)]
theorem adY {d:aA} {t:Nat} {p:Nat×Nat} (h:p∈PN d t):p.2<d.aB.length:=by
 obtain ⟨k,_,h2⟩:=List.mem_flatMap.1 h
 obtain ⟨m,h3,rfl⟩:=List.mem_map.1 h2
 exact List.mem_range.1 (List.mem_filter.1 (List.mem_filter.1 h3).1).1
theorem afF {d:aA} (hb:bR d) {C:List ai} (hC:∀x∈C,okV x) (hCl:C.length≤10) (limit B:Int):wV d C limit B=some ⟨bef d,rC C,limit,10,[],0,B,false⟩:=by
 have hF:=hb.1
 have hP:=ab8 hF (Nat.le_refl _)
 have l3:aG (nU d) (0,[])=some (List.replicate d.aB.length ([]:List Int)):=
  jw (f:=nU d) (fun t:Nat=>((t:Int),List.replicate t ([]:List Int))) d.aB.length (r:=List.replicate d.aB.length ([]:List Int)) (fun t ht=>by
   unfold nU
   simp only
   rw [if_pos (by omega),yx (by rw [List.length_singleton,List.length_replicate];omega),Option.bind_some,bU (by omega),List.replicate_succ']) (by
   unfold nU
   simp only
   rw [if_neg (by omega)])
 unfold wV
 rw [l3,Option.bind_some,abE hb,Option.bind_some]
 have l8:aG (qC ((PN d d.aB.length).map MP)) (0,List.replicate d.aB.length ([]:List Int))=some (rwN d.aB.length (PN d d.aB.length)):=by
  have e0:List.replicate d.aB.length ([]:List Int)=rwN d.aB.length ((PN d d.aB.length).take 0):=by
   unfold rwN
   rw [List.take_zero]
   refine List.ext_getElem (by simp) fun i h1 h2=>by simp
  rw [e0]
  refine jw (fun j:Nat=>((j:Int),rwN d.aB.length ((PN d d.aB.length).take j))) (PN d d.aB.length).length (fun j hj=>?_) ?_
  ·have hp:=adY (List.getElem_mem hj)
   have hq:(((PN d d.aB.length).take j).filterMap fun q=>if q.2=(PN d d.aB.length)[j].2 then some (q.1:Int) else none).length≤j:=by
    refine Nat.le_trans (List.length_filterMap_le _ _) ?_
    rw [List.length_take]
    omega
   have r2:rd (rwN d.aB.length ((PN d d.aB.length).take j)) ((PN d d.aB.length)[j].2:Int)=some (((PN d d.aB.length).take j).filterMap fun q=>if q.2=(PN d d.aB.length)[j].2 then some (q.1:Int) else none):=by
    rw [eu (by rw [PR];exact hp)]
    unfold rwN
    rw [List.getElem_map,List.getElem_range]
   have r3:rd ((PN d d.aB.length).map MP) (j:Int)=some (MP (PN d d.aB.length)[j]):=by
    rw [eu (by rw [List.length_map];exact hj),List.getElem_map]
   unfold qC
   simp only
   rw [List.length_map,if_pos (by omega),r3,Option.bind_some,List.take_succ_eq_append_getElem hj,Yz _ _ _ hp]
   generalize (PN d d.aB.length)[j]=p at hp hq r2
   show ((some (p.1:Int)).bind fun x73=>(some (p.2:Int)).bind fun x55=>_)=_
   simp only [Option.bind_some]
   rw [r2,Option.bind_some,yx (by rw [List.length_singleton];omega),Option.bind_some,bU (by omega),Int.toNat_natCast]
  ·unfold qC
   simp only
   rw [List.length_map,if_neg (by omega),List.take_of_length_le (Nat.le_refl _)]
 have l16:∀i (hi:i<C.length),aG (o8 (i:Int) C) (0,([]:List Int))=some (C.map fun b=>ctP C[i] b):=by
  intro i hi
  refine jw (fun k:Nat=>((k:Int),(C.take k).map fun b=>ctP C[i] b)) C.length (fun k hk=>?_) ?_
  ·unfold o8
   simp only
   rw [if_pos (by omega),eu hi,Option.bind_some,eu hk,Option.bind_some,ahM (hC _ (List.getElem_mem hi)) (hC _ (List.getElem_mem hk)),Option.bind_some,yx (by rw [List.length_singleton,List.length_map,List.length_take];omega),Option.bind_some,bU (by omega),List.take_succ_eq_append_getElem hk,List.map_append]
   rfl
  ·unfold o8
   simp only
   rw [if_neg (by omega),List.take_of_length_le (Nat.le_refl _)]
 have l12:aG (pg C) (0,([]:List (List Int)))=some (rC C):=by
  refine jw (fun i:Nat=>((i:Int),(C.take i).map fun a=>C.map fun b=>ctP a b)) C.length (fun i hi=>?_) ?_
  ·unfold pg
   simp only
   rw [if_pos (by omega),l16 i hi,Option.bind_some,yx (by rw [List.length_singleton,List.length_map,List.length_take];omega),Option.bind_some,bU (by omega),List.take_succ_eq_append_getElem hi,List.map_append]
   rfl
  ·unfold pg
   simp only
   rw [if_neg (by omega),List.take_of_length_le (Nat.le_refl _)]
 rw [l8,Option.bind_some,l12,Option.bind_some,abG]
theorem adZ {d:aA} (hb:jU d) {C:List ai} (hC:C.length≤1048576) (limit B:Int):
 ∃code,wR d C limit B=some code∧mX d C limit B=some code∧(code≠0∨(code=0∧(∀x∈C,okV x)∧1≤C.length∧C.length≤10∧0≤limit∧limit≤115∧1≤B∧B≤20000)):=by
 obtain ⟨v,h1,h2⟩:=abt d hb
 unfold wR mX
 rw [h1,h2,Option.bind_some,Option.bind_some]
 cases v with
 | false=>exact ⟨1,rfl,rfl,.inl (by decide)⟩
 | true=>
  rw [if_pos rfl,if_pos rfl,adO C hC,adG C hC]
  cases hve:C.all LQ with
  | false=>exact ⟨1,rfl,rfl,.inl (by decide)⟩
  | true=>
   simp only [Option.bind_some,Bool.not_true,Bool.false_eq_true,if_false,Ed,ab1]
   by_cases c1:(C.length:Int) <1
   ·rw [if_pos c1]
    exact ⟨2,rfl,rfl,.inl (by decide)⟩
   ·by_cases c2:(C.length:Int) >10
    ·rw [if_neg c1,if_pos c2]
     exact ⟨2,rfl,rfl,.inl (by decide)⟩
    ·rw [if_neg c1,if_neg c2]
     by_cases c3:0≤limit∧limit≤115
     ·by_cases c4:1≤B∧B≤20000
      ·rw [decide_eq_true c3,decide_eq_true c4]
       exact ⟨0,rfl,rfl,.inr ⟨rfl,fun x hx=>abv (List.all_eq_true.1 hve x hx),by omega,by omega,c3.1,c3.2,c4.1,c4.2⟩⟩
      ·rw [decide_eq_true c3,decide_eq_false c4]
       exact ⟨2,rfl,rfl,.inl (by decide)⟩
     ·rw [decide_eq_false c3]
      exact ⟨2,rfl,rfl,.inl (by decide)⟩
theorem abH {f:List Int→Int→Int×List Int×Int} {ok:List Int→Int→Bool} {G:List Int} {n:Nat} (hf:∀t L,(f (G++[t]) L).1=0→(f (G++[t]) L).2.1.length=n):∀(k i:Nat) (L:Int),(cgo f ok G k i L).1=0→(cgo f ok G k i L).2.1.length=n:=by
 intro k
 induction k with
 | zero=>intro i L h;cases h
 | succ k ih=>
  intro i L
  unfold cgo
  split
  ·split
   ·intro h;cases h
   ·split
    ·exact ih _ _
    ·exact hf _ _
  ·exact ih _ _
theorem UU {ok:List Int→Int→Bool} {p:Nat}:∀(m:Nat) (G:List Int) (L:Int),(csr ok p m G L).1=0→(csr ok p m G L).2.1.length=G.length+m:=by
 intro m
 induction m with
 | zero=>intro G L _;rfl
 | succ m ih=>
  intro G L h
  exact abH (n:=G.length+(m+1)) (fun t L h=>by rw [ih _ _ h,List.length_append,List.length_singleton];omega) _ _ _ h
theorem ab9 (l:List Int) (h:l.length≤1048576):xw l=some l:=by
 unfold xw
 rw [yx (by simp only [List.length_nil];omega)]
 rfl
theorem ad1 (l:List ai) (h:l.length≤1048576) {k0:Int} (h0:0≤k0) (h1:k0≤1099514773505):∃k' out',og l k0=some (k',out')∧k0≤k':=by
 unfold og
 obtain ⟨k',out',q1,q2,q3⟩:=afs (f:=jB) (c:=3) 2199023255552 (fun k i out hi hk1 hk2=>by
  have w0:w64 (k+1)=k+1:=by rw [fH (by omega) (by omega)]
  have w1:w64 (k+1+1)=k+2:=by rw [fH (by omega) (by omega)];omega
  have w2:w64 (k+2+1)=k+3:=by rw [fH (by omega) (by omega)];omega
  obtain ⟨r0,hr0⟩:=UQ k (by omega)
  have hget:∃o2,jB (k,(i:Int),out)=some (.inl (k+3,w64 ((i:Int)+1),o2))∧o2.length=out.length:=by
   unfold jB
   simp only
   rw [if_pos (by omega)]
   simp only [KL,Int.toNat_natCast,List.length_set,List.getElem?_set_self,List.getElem?_eq_getElem hi,hi,Option.bind_some,w0,w1,w2,hr0]
   exact ⟨_,rfl,by simp⟩
  obtain ⟨o2,g1,g2⟩:=hget
  exact ⟨k+3,o2,g2,by omega,by omega,g1⟩) (fun k out=>by
  unfold jB
  simp only
  rw [if_neg (by omega)]) l h0 (by omega) (by omega)
 rw [q1]
 exact ⟨k',out',rfl,q2⟩
theorem zA {d:aA} (hb:bR d) {C:List ai} (hC:∀x∈C,okV x) (l1:1≤C.length) (l2:C.length≤10) {L:Int} (h0:0≤L) (h1:L≤20000):(csr (okC d C 0 (C.length:Int)) C.length d.aB.length [] L).1≠3:=by
 have e1:=Yt hb hC (by omega) 0 (C.length:Int) d.aB.length [] L (by simp) h0 h1 (by simp) (by rw [IE];omega)
 obtain ⟨out,code,L',r1,r2,r3,r4⟩:=aby hb hC (by omega) 0 (C.length:Int) (by omega) d.aB.length [] L (by simp) h0 h1 PC.nil (by rw [IE];omega)
 rw [e1] at r1
 injection r1 with r1
 injection r1 with p1 p2
 injection p2 with p2 p3
 rw [p2]
 rcases r4 with ⟨rfl,_⟩ | ⟨rfl,_⟩ | ⟨rfl,_,r6⟩
 ·decide
 ·decide
 ·exfalso
  have hk:kn (List.replicate d.aB.length (0:Int))≤C.length:=UO _ _ fun x hx=>by
   have:=List.eq_of_mem_replicate hx
   omega
  have hP:PC d C 0 (List.replicate d.aB.length 0):=by
   intro k h
   have h0:(List.replicate d.aB.length (0:Int))[k]=0:=by simp
   rw [h0]
   refine ⟨Int.le_refl _,by omega,List.all_eq_true.2 fun m hm=>?_⟩
   unfold gdC
   have e:((List.replicate d.aB.length (0:Int)).take k).getD m.toNat 0=0:=by
    rw [List.take_replicate,List.getD_eq_getElem?_getD,List.getElem?_replicate]
    split<;>rfl
   rw [e]
   obtain ⟨_,a2⟩:=Ym hC (C:=C) (i:=0) (Int.le_refl _) (by omega)
   have:=(adJ a2 a2).1
   simp [this]
  exact r6 (List.replicate d.aB.length 0) hP (by simp) (by rw [List.nil_append];omega)
theorem abI {d:aA} (hb:jU d) {C:List ai} (hC:C.length≤1048576) (B:Int):∃r q c,mP d C B=some (r,q,c)∧kG d C B=some (r,q,c)∧r.length≤1048576:=by
 obtain ⟨code,h1,h2,h3⟩:=adZ hb hC 0 B
 unfold mP kG
 rw [h1,h2,Option.bind_some,Option.bind_some]
 rcases h3 with h | ⟨rfl,hV,l1,l2,_,_,b1,b2⟩
 ·rw [if_pos h,if_pos h]
  exact ⟨[],0,code,rfl,rfl,by simp⟩
 ·have hr:=afB hb
  have hF:=hr.1
  have lp:∀(m:Nat) (L:Int),m≤115→0≤L→L≤B→
   ∃r q c,((aG bY (bef d,rC C,(m:Int),10,[],B - L,B,false)).bind fun o=>match o with
    | (.inl _)=>(some (([]:List Int),(0:Int),(5:Int)))
    | (.inr r2)=>(some r2))=some (r,q,c)∧aG (bC C) ((m:Int),nrC d,C,L)=some (.inr (r,q,c))∧r.length≤1048576:=by
   intro m
   induction m with
   | zero=>
    intro L hm g0 g1
    have e1:=Yt hr hV hC 0 (C.length:Int) d.aB.length [] L (by simp) g0 (by omega) (by simp) (by rw [IE];omega)
    have e2:=ab7 hr l2 (limit:=0) (mS:=10) (mI:=(C.length:Int)) (B:=B) b2 (Ro _ l2) d.aB.length [] L (by simp) g0 g1 (by simp) (by rw [IE];omega)
    have hR:=LY (ok:=okC d C 0 (C.length:Int)) (p:=C.length) d.aB.length [] L g0
    have hL:=UU (ok:=okC d C 0 (C.length:Int)) (p:=C.length) d.aB.length [] L
    have h3:=zA hr hV l1 l2 g0 (by omega)
    generalize csr (okC d C 0 (C.length:Int)) C.length d.aB.length [] L=r at hR hL e1 e2 h3
    have e1:gy ⟨nrC d,C,L⟩ [] ((0:Nat):Int) (C.length:Int)=_:=e1
    have e2:jb ⟨bef d,rC C,((0:Nat):Int),10,[],B - L,B,false⟩=_:=e2
    rcases hR.2.2 with h | ⟨h,h',_⟩ | ⟨h,h'⟩
    ·have hl:=hL h
     rw [List.length_nil] at hl
     have sS:bY (bef d,rC C,((0:Nat):Int),10,[],B - L,B,false)=some (.inr (.inr (r.2.1,0,0))):=by
      unfold bY
      simp only
      rw [if_pos (by omega),e2,Option.bind_some]
      simp only [h,decide_true,if_true]
      rw [ab9 _ (by omega)]
      rfl
     have sI:bC C (((0:Nat):Int),nrC d,C,L)=some (.inr (.inr (r.2.1,0,0))):=by
      unfold bC
      simp only
      rw [if_pos (by omega),e1,Option.bind_some,if_pos h]
      rfl
     exact ⟨r.2.1,0,0,by rw [aN sS];rfl,aN sI,by omega⟩
    ·have sS:bY (bef d,rC C,((0:Nat):Int),10,[],B - L,B,false)=some (.inr (.inl ())):=by
      unfold bY
      simp only
      rw [if_pos (by omega),e2,Option.bind_some]
      simp [h]
     have sI:bC C (((0:Nat):Int),nrC d,C,L)=some (.inr (.inr ([],0,5))):=by
      unfold bC
      simp only
      rw [if_pos (by omega),e1,Option.bind_some]
      simp [h]
     exact ⟨[],0,5,by rw [aN sS];rfl,aN sI,by simp⟩
    ·exact absurd h h3
   | succ m ih=>
    intro L hm g0 g1
    have e1:=Yt hr hV hC ((m+1:Nat):Int) (C.length:Int) d.aB.length [] L (by simp) g0 (by omega) (by simp) (by rw [IE];omega)
    have e2:=ab7 hr l2 (limit:=((m+1:Nat):Int)) (mS:=10) (mI:=(C.length:Int)) (B:=B) b2 (Ro _ l2) d.aB.length [] L (by simp) g0 g1 (by simp) (by rw [IE];omega)
    have hR:=LY (ok:=okC d C ((m+1:Nat):Int) (C.length:Int)) (p:=C.length) d.aB.length [] L g0
    have hL:=UU (ok:=okC d C ((m+1:Nat):Int) (C.length:Int)) (p:=C.length) d.aB.length [] L
    generalize csr (okC d C ((m+1:Nat):Int) (C.length:Int)) C.length d.aB.length [] L=r at hR hL e1 e2
    have hw:w64 (((m+1:Nat):Int) - 1)=(m:Int):=by rw [fH (by omega) (by omega)];omega
    rcases hR.2.2 with h | ⟨h,h',_⟩ | ⟨h,h'⟩
    ·have hl:=hL h
     rw [List.length_nil] at hl
     have sS:bY (bef d,rC C,((m+1:Nat):Int),10,[],B - L,B,false)=some (.inr (.inr (r.2.1,((m+1:Nat):Int),0))):=by
      unfold bY
      simp only
      rw [if_pos (by omega),e2,Option.bind_some]
      simp only [h,decide_true,if_true]
      rw [ab9 _ (by omega)]
      rfl
     have sI:bC C (((m+1:Nat):Int),nrC d,C,L)=some (.inr (.inr (r.2.1,((m+1:Nat):Int),0))):=by
      unfold bC
      simp only
      rw [if_pos (by omega),e1,Option.bind_some,if_pos h]
     exact ⟨r.2.1,_,0,by rw [aN sS];rfl,aN sI,by omega⟩
    ·have sS:bY (bef d,rC C,((m+1:Nat):Int),10,[],B - L,B,false)=some (.inr (.inl ())):=by
      unfold bY
      simp only
      rw [if_pos (by omega),e2,Option.bind_some]
      simp [h]
     have sI:bC C (((m+1:Nat):Int),nrC d,C,L)=some (.inr (.inr ([],0,5))):=by
      unfold bC
      simp only
      rw [if_pos (by omega),e1,Option.bind_some]
      simp [h]
     exact ⟨[],0,5,by rw [aN sS];rfl,aN sI,by simp⟩
    ·have sS:bY (bef d,rC C,((m+1:Nat):Int),10,[],B - L,B,false)=some (.inl (bef d,rC C,(m:Int),10,[],B - r.2.2,B,false)):=by
      unfold bY
      simp only
      rw [if_pos (by omega),e2,Option.bind_some]
      simp only [h,hw]
      rfl
     have sI:bC C (((m+1:Nat):Int),nrC d,C,L)=some (.inl ((m:Int),nrC d,C,r.2.2)):=by
      unfold bC
      simp only
      rw [if_pos (by omega),e1,Option.bind_some]
      simp only [h,hw]
      rfl
     rw [bT sS,bT sI]
     exact ih r.2.2 (by omega) hR.1 (by have:=hR.2.1;omega)
  rw [if_neg (by decide),if_neg (by decide),afF hr hV l2,V3 hr,Option.bind_some,Option.bind_some]
  obtain ⟨r,q,c,q1,q2,q3⟩:=lp 115 B (by omega) (by omega) (Int.le_refl _)
  rw [Int.sub_self] at q1
  have q2:aG (bC C) (115,nrC d,C,B)=_:=q2
  rw [q2]
  exact ⟨r,q,c,q1,rfl,q3⟩
theorem IG (a:aA) (S:List ai) (B:Int) (wa:GM a) (wS:(∀x∈S,DX x)∧S.length≤maxLen):jT a S B=some true:=by
 unfold jT
 obtain ⟨v,v1,v2,v3⟩:=Pv a wa (left:=1048576) (by omega) (by omega)
 rw [v1,Option.bind_some]
 by_cases c1:v<0
 ·rw [if_pos c1]
 rw [if_neg c1]
 have ha:=v3.resolve_left c1
 obtain ⟨v',w1,w2,w3⟩:=Pz S wS (left:=v) (by omega) (by omega)
 rw [w1,Option.bind_some]
 by_cases c2:v'<0
 ·rw [if_pos c2]
 rw [if_neg c2]
 have hS:=w3.resolve_left c2
 obtain ⟨r,q,c,h1,h2,h3⟩:=abI ha hS.1 B
 obtain ⟨k,k1,k2,k3⟩:=TP a ha (k:=1) (by omega) (by omega)
 obtain ⟨k',out',m1,m2⟩:=ad1 S hS.1 (k0:=k) (by omega) (by omega)
 rw [Px a ha,PD S hS]
 simp only [Option.bind_some,h1,h2,afD r (by omega),Py a ha,PE S hS,k1,m1,abA r (by omega),abB r.length (by omega),not_true,ne_eq,or_self,if_false,if_true]
 rw [if_neg (show ¬k'<0 by omega)]
 simp
 rw [if_neg (by omega),if_neg (by omega)]
end Go.Pw
