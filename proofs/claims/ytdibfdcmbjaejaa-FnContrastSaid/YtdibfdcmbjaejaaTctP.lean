/- The plain law of FnContrast. Conditions: none. -/
import Derived.Test.YtdibfdcmbjaejaaTctT
import Derived.Test.YtdibfdcmbjaejaaSimPe
import Derived.Test.YtdibfdcmbjaejaaSimPn
import Derived.Test.YtdibfdcmbjaejaaSimRh
namespace Go.Pw
open Go.Sim (min2 max2)
set_option linter.unusedVariables false
set_option linter.unusedSimpArgs false
def UY (x:ae):Prop:=True∧True
def XW (x:aj):Prop:=x.Name.size≤1048576∧(x.Ring.length≤1048576∧∀a∈x.Ring,True)
def uA (x:aB):Prop:=True∧True∧(x.aI.length≤1048576∧∀a∈x.aI,UY a)∧(x.ai.length≤1048576∧∀a∈x.ai,XW a)
theorem kC (n a b:Int):bW n a b=some (decide (a≤n∧n≤b)):=by
 unfold bW
 rw [Bool.decide_and]
theorem WV (n a b:Int):fJ n a b=some (decide (a≤n∧n≤b)):=by
 unfold fJ
 rw [Bool.decide_and]
theorem XX (s:ByteArray) (i:Int):jQ s i=lZ s i:=by
 unfold jQ lZ
 by_cases c:i< (s.size:Int)
 ·rw [if_pos c,if_pos c]
  cases bt s i with
  | none=>rfl
  | some x=>
   have d1:decide (x≥97)=!decide (x<97):=by rw [←decide_not];exact decide_eq_decide.2 (by omega)
   have d2:decide (x≤122)=!decide (x>122):=by rw [←decide_not];exact decide_eq_decide.2 (by omega)
   have d3:decide (x≥48)=!decide (x<48):=by rw [←decide_not];exact decide_eq_decide.2 (by omega)
   have d4:decide (x≤57)=!decide (x>57):=by rw [←decide_not];exact decide_eq_decide.2 (by omega)
   simp only [Option.bind_some,o5,uM,d1,d2,d3,d4]
   by_cases c1:x<97<;>by_cases c2:x>122<;>by_cases c3:x<48<;>by_cases c4:x>57<;>simp [c1,c2,c3,c4]
 ·rw [if_neg c,if_neg c]
theorem WW (s:ByteArray):∃v,um s=some v∧kE s=some v:=by
 unfold um kE
 by_cases c0:s.size=0
 ·have hs:=XV c0
  refine ⟨false,?_,?_⟩
  ·rw [if_pos hs];rfl
  ·rw [if_pos (by omega)];rfl
 ·have hs:¬s=⟨#[]⟩:=fun h=>c0 (by rw [h];rfl)
  rw [if_neg hs,if_neg (show ¬((s.size:Int) <1) by omega)]
  by_cases c1:(s.size:Int) >10
  ·rw [if_pos c1,if_pos c1]
   exact ⟨false,rfl,rfl⟩
  ·rw [if_neg c1,if_neg c1]
   obtain ⟨b,hb,hb1,hb2⟩:=WT (s:=s) (i:=0) (by omega)
   have hb':bt s 0=some b:=hb
   rw [hb']
   have hloop:∃o,aP (lZ s) 0=some o:=by
    refine TJ s.size (by omega) (fun i hi=>?_) ⟨.inl (),?_⟩
    ·obtain ⟨x,hx,_⟩:=WT (s:=s) hi
     unfold lZ
     rw [if_pos (by omega),hx]
     simp only [Option.bind_some,o5,uM]
     split
     ·simp
     ·simp only [Option.bind_some]
      split
      ·exact .inr ⟨_,rfl⟩
      ·exact .inl rfl
    ·unfold lZ
     rw [if_neg (by omega)]
   obtain ⟨o,ho⟩:=hloop
   have ho2:aP (jQ s) 0=some o:=by rw [Gh (XX s)];exact ho
   rw [ho,ho2]
   have e:(if b<97 then some true else some (decide (b>122)))=some (!(decide (b≥97)&&decide (b≤122))):=by
    have d1:decide (b≥97)=!decide (b<97):=by rw [←decide_not];exact decide_eq_decide.2 (by omega)
    have d2:decide (b≤122)=!decide (b>122):=by rw [←decide_not];exact decide_eq_decide.2 (by omega)
    rw [d1,d2]
    by_cases c2:b<97<;>by_cases c3:b>122<;>simp [c2,c3]
   simp only [Option.bind_some,o5]
   rw [e]
   simp only [Option.bind_some]
   split
   ·exact ⟨false,rfl,rfl⟩
   ·cases o with
    | inl u=>exact ⟨true,rfl,rfl⟩
    | inr r=>exact ⟨r,rfl,rfl⟩
theorem nm (s:ByteArray):kE s=um s:=by
 obtain ⟨v,h1,h2⟩:=WW s
 rw [h1,h2]
theorem vin (n a b:Int):fJ n a b=bW n a b:=rfl
theorem adr (a b c:ae):mV a b c=nJ a b c:=by
 unfold mV yB nJ
 simp only [Option.bind_some]
theorem ah5 (a b:Int):mX a b=some (min2 a b):=by
 unfold mX min2
 split<;>split<;>first | rfl | (congr 1;omega)
theorem ah6 (a b:Int):lM a b=some (max2 a b):=by
 unfold lM max2
 split<;>split<;>first | rfl | (congr 1;omega)
theorem von (a b p:ae):o6 a b p=sG a b p:=by
 unfold o6 sG
 simp only [adr,ah5,ah6,vin,Option.bind_some]
theorem aev (a b c d:ae):qZ a b c d=mZ a b c d:=by
 unfold qZ mZ
 simp only [adr]
theorem agt (a b c d:ae):wG a b c d=iY a b c d:=by
 unfold wG iY
 simp only [aev,von]
theorem Gi (a b c:ae):∃v,nJ a b c=some v:=by
 unfold nJ
 split
 ·exact ⟨_,rfl⟩
 ·split<;>exact ⟨_,rfl⟩
theorem J6 (a b c:ae):∃v,sG a b c=some v:=by
 obtain ⟨x,hx⟩:=Gi a b c
 unfold sG bW
 rw [hx]
 simp only [Option.bind_some]
 split
 ·split<;>exact ⟨_,rfl⟩
 ·exact ⟨_,rfl⟩
theorem XY (a b c d:ae):∃v,mZ a b c d=some v:=by
 obtain ⟨x,hx⟩:=Gi a b c
 obtain ⟨y,hy⟩:=Gi a b d
 obtain ⟨z,hz⟩:=Gi c d a
 obtain ⟨w,hw⟩:=Gi c d b
 unfold mZ
 rw [hx,hy,hz,hw]
 simp only [Option.bind_some]
 split<;>exact ⟨_,rfl⟩
theorem XZ (a b c d:ae):∃v,iY a b c d=some v:=by
 obtain ⟨x,hx⟩:=XY a b c d
 obtain ⟨y,hy⟩:=J6 a b c
 obtain ⟨z,hz⟩:=J6 a b d
 obtain ⟨w,hw⟩:=J6 c d a
 obtain ⟨u,hu⟩:=J6 c d b
 unfold iY
 rw [hx,hy,hz,hw,hu]
 simp only [Option.bind_some]
 cases x<;>cases y<;>cases z<;>cases w<;>exact ⟨_,rfl⟩
theorem uI {k n:Nat} (hn:0<n):md (k:Int) (n:Int)=some ((k % n:Nat):Int):=by
 unfold md
 rw [if_neg (by omega),Int.tmod_eq_emod_of_nonneg (by omega)]
 rfl
theorem Ro {α:Type} {p:List α} {k:Nat} (hp:0<p.length):∃x,rd p ((k % p.length:Nat):Int)=some x:=⟨_,iO (Nat.mod_lt _ hp)⟩
theorem agu (p:List ae):wH p=jR p:=by
 unfold wH jR
 congr 1
 refine Gh (fun s=>?_) _
 obtain ⟨a,i⟩:=s
 unfold yZ fB
 simp only
 split
 ·cases h1:rd p i<;>cases h2:md (w64 (i+1)) (p.length:Int)<;>simp only [Option.bind_some,Option.bind_none]
  rename_i x y
  cases rd p y<;>rfl
 ·rfl
theorem ZX (p:List ae) (hp:p.length≤1048576):∃v,jR p=some v:=by
 have:Ev (aP (fB p) (0,0)) (fun _=>True):=by
  refine Ev.loop (fun s:Int×Int=>0≤s.2∧s.2≤(p.length:Int)) (fun s:Int×Int=>((p.length:Int) - s.2).toNat) ?_ ⟨Int.le_refl _,by simp only;omega⟩
  rintro ⟨a,i⟩ ⟨i0,i1⟩
  unfold fB
  simp only at i0 i1 ⊢
  refine Ev.ite (fun hc=>?_) fun _=>Ev.ret trivial
  obtain ⟨j,rfl⟩:∃j:Nat,i=(j:Int):=⟨i.toNat,by omega⟩
  refine Ev.bind (Ev.rd i0 hc) fun x _=>?_
  rw [bI (by omega),uI (by omega)]
  obtain ⟨y,hy⟩:=Ro (p:=p) (k:=j+1) (by omega)
  simp only [Option.bind_some,hy]
  exact Ev.ret ⟨⟨by simp only;omega,by simp only;omega⟩,by simp only;omega⟩
 obtain ⟨v,hv,_⟩:=this
 unfold jR
 rw [hv]
 exact ⟨_,rfl⟩
theorem aew (p:ae):∃v,l9 p=some v:=by
 unfold l9 bW
 simp only [Option.bind_some]
 split<;>exact ⟨_,rfl⟩
theorem aex (p:List ae) (hp:p.length≤1048576):aP (dK p) 0=some (.inl ())∨aP (dK p) 0=some (.inr false):=by
 rcases aet (f:=dK p) p (fun _=>True) (by omega) (fun i hi=>by
  unfold dK
  rw [if_pos (by omega),iO hi,Option.bind_some]
  obtain ⟨v,hv⟩:=aew p[i]
  rw [hv,Option.bind_some]
  cases v
  ·exact .inr rfl
  ·exact .inl ⟨rfl,trivial⟩) (by unfold dK;rw [if_neg (by omega)]) with ⟨h,_⟩ | h
 ·exact .inl h
 ·exact .inr h
theorem agv (p:List ae) (i:Int) (x y:ae):wI i p x y=aX p i x y:=by
 funext k
 unfold wI aX
 simp only [agt]
theorem acB (p:List ae):wJ p=bM p:=by
 funext i
 unfold wJ bM
 simp only [von,agv]
theorem ah7 (p:List ae):Ci p=dK p:=rfl
theorem ZY (p:List ae) (hp:p.length≤1048576) (i:Int) (x y:ae) {k:Int} (hk:0≤k):∃o,aP (aX p i x y) k=some o:=by
 have:Ev (aP (aX p i x y) k) (fun _=>True):=by
  refine Ev.loop (fun s=>0≤s) (fun s=>((p.length:Int) - s).toNat) ?_ hk
  intro s h0
  unfold aX
  refine Ev.ite (fun hc=>?_) fun _=>Ev.ret trivial
  obtain ⟨j,rfl⟩:∃j:Nat,s=(j:Int):=⟨s.toNat,by omega⟩
  rw [bI (by omega),uI (by omega)]
  obtain ⟨y2,hy⟩:=Ro (p:=p) (k:=j+1) (by omega)
  simp only [Option.bind_some,hy,iO (show j<p.length by omega)]
  obtain ⟨v,hv⟩:=XZ x y p[j] y2
  rw [hv]
  simp only [Option.bind_some]
  refine Ev.bind (P:=fun _=>True) (Ev.ite (fun _=>Ev.ret trivial) fun _=>Ev.ret trivial) fun t _=>?_
  exact Ev.ite (fun _=>Ev.ret trivial) fun _=>Ev.ret ⟨by omega,by omega⟩
 obtain ⟨v,hv,_⟩:=this
 exact ⟨v,hv⟩
theorem UZ (p:List ae) (hp:p.length≤1048576):∃o,aP (bM p) 0=some o:=by
 refine TJ p.length (by omega) (fun i hi=>?_) ⟨_,by unfold bM;rw [if_neg (by omega)]⟩
 unfold bM
 obtain ⟨y,hy⟩:=Ro (p:=p) (k:=i+1) (by omega)
 obtain ⟨z,hz⟩:=Ro (p:=p) (k:=i+2) (by omega)
 have e2:w64 ((i:Int)+2)=((i+2:Nat):Int):=by rw [aY (by omega) (by omega)];omega
 rw [if_pos (by omega),bI (by omega),e2,uI (by omega),uI (by omega),iO hi]
 simp only [Option.bind_some,hy,hz]
 obtain ⟨u,hu⟩:=J6 p[i] y z
 obtain ⟨v,hv⟩:=J6 y z p[i]
 obtain ⟨o,ho⟩:=ZY p hp (i:Int) p[i] y (k:=((i+2:Nat):Int)) (by omega)
 rw [hu,hv,ho]
 simp only [Option.bind_some]
 have fin:∀t:Bool,(if t=true then (some (.inr (.inr false)):Option (Int ⊕ (Unit ⊕ Bool))) else (match (generalizing:=false) o with | .inl _=>some (.inl ((i+1:Nat):Int)) | .inr r2=>some (.inr (.inr r2))))=some (.inl (((i+1:Nat):Int)))∨∃r,(if t=true then (some (.inr (.inr false)):Option (Int ⊕ (Unit ⊕ Bool))) else (match (generalizing:=false) o with | .inl _=>some (.inl ((i+1:Nat):Int)) | .inr r2=>some (.inr (.inr r2))))=some (.inr r):=by
  intro t
  cases t
  ·cases o
   ·exact .inl rfl
   ·exact .inr ⟨_,rfl⟩
  ·exact .inr ⟨_,rfl⟩
 split
 ·exact fin true
 ·cases u
  ·exact fin v
  ·exact fin true
theorem acC (p:List ae) (hp:p.length≤1048576):∃v,Az p=some v∧fE p=some v:=by
 unfold Az fE nI
 simp only [ah7,acB,agu]
 by_cases c1:(p.length:Int) <3
 ·rw [if_pos (.inl c1),if_pos c1]
  exact ⟨_,rfl,rfl⟩
 by_cases c2:(p.length:Int) >24
 ·rw [if_pos (.inr c2),if_neg c1,if_pos c2]
  exact ⟨_,rfl,rfl⟩
 rw [if_neg (fun h=>h.elim c1 c2),if_neg c1,if_neg c2]
 obtain ⟨o,ho⟩:=UZ p hp
 obtain ⟨a,ha⟩:=ZX p hp
 rw [ho,ha]
 rcases aex p hp with h | h<;>rw [h]
 ·cases o<;>exact ⟨_,rfl,rfl⟩
 ·exact ⟨_,rfl,rfl⟩
theorem PI {f g:Int→Option (Int ⊕ (Unit ⊕ Bool))} {n:Nat} (hn:n≤1048576)
 (h:∀i:Nat,i<n→∃w:Bool,f (i:Int)=(if w=true then some (.inl (((i+1:Nat):Int))) else some (.inr (.inr false)))∧g (i:Int)=(if w=true then some (.inl (((i+1:Nat):Int))) else some (.inr (.inr false))))
 (hf:f (n:Int)=some (.inr (.inl ()))) (hg:g (n:Int)=some (.inr (.inl ()))):∃o,aP f 0=some o∧aP g 0=some o∧(o= .inl ()∨o= .inr false):=by
 have key:∀(m i:Nat),i+m=n→∃o,aP f (i:Int)=some o∧aP g (i:Int)=some o∧(o= .inl ()∨o= .inr false):=by
  intro m
  induction m with
  | zero=>
   intro i hi
   obtain rfl:i=n:=by omega
   exact ⟨_,aV hf,aV hg,.inl rfl⟩
  | succ m ih=>
   intro i hi
   obtain ⟨w,w1,w2⟩:=h i (by omega)
   cases w with
   | true=>
    rw [if_pos rfl] at w1 w2
    rw [aT w1,aT w2]
    exact ih (i+1) (by omega)
   | false=>exact ⟨_,aV w1,aV w2,.inr rfl⟩
 exact key n 0 (by omega)
theorem agw (d:aB) (ring:List Int):wF d ring=gJ d.aI ring:=by
 unfold wF gJ
 congr 1
 refine Gh (fun s=>?_) _
 obtain ⟨i,out⟩:=s
 unfold yY iD
 simp only [vin]
 split
 ·cases rd ring i with
  | none=>rfl
  | some x=>rfl
 ·rfl
theorem acD (pts:List ae) (ring:List Int) (hp:pts.length≤1048576) (hr:ring.length≤1048576):Ev (gJ pts ring) (fun r=>r.1.length≤1048576):=by
 unfold gJ
 refine Ev.bind (P:=fun o=>match o with | .inl l=>l.length≤1048576 | .inr r=>r.1.length≤1048576) (Ev.loop (fun s:Int×List ae=>0≤s.1∧s.1≤(ring.length:Int)∧(s.2.length:Int)≤s.1) (fun s:Int×List ae=>((ring.length:Int) - s.1).toNat) ?_ ⟨Int.le_refl _,by simp only;omega,by simp⟩) fun o ho=>?_
 ·rintro ⟨i,out⟩ ⟨i0,i1,i2⟩
  unfold iD bW
  simp only at i0 i1 i2 ⊢
  refine Ev.ite (fun hc=>?_) fun _=>Ev.ret (by simp only;omega)
  refine Ev.bind (Ev.rd i0 hc) fun x _=>?_
  simp only [Option.bind_some,Bool.and_eq_true,decide_eq_true_eq]
  refine Ev.ite (fun hx=>?_) fun _=>Ev.ret (by simp)
  have e:w64 ((pts.length:Int) - 1)=(pts.length:Int) - 1:=aY (by omega) (by omega)
  rw [e] at hx
  refine Ev.bind (Ev.rd hx.1 (by omega)) fun y _=>?_
  refine Ev.bind (Ev.apd (by simp;omega)) fun l hl=>?_
  subst hl
  rw [aY (n:=i+1) (by omega) (by omega)]
  exact Ev.ret ⟨⟨by simp only;omega,by simp only;omega,by simp only [List.length_append,List.length_singleton];omega⟩,by simp only;omega⟩
 ·cases o with
  | inl l=>exact Ev.ret ho
  | inr r=>exact Ev.ret ho
theorem ah8 (d:aB) {i:Nat} (hi:i<d.aI.length) (hp:d.aI.length≤1048576):
 ∃b:Bool,aP (lT d (i:Int)) 0=some (if b=true then .inr false else .inl ())∧bG (d.aI.take i) d.aI[i]=some b:=by
 have hl:(d.aI.take i).length=i:=by rw [List.length_take];omega
 have e1:=uT (f:=lT d (i:Int)) (d.aI.take i) (fun x=>decide (d.aI[i].X=x.X∧d.aI[i].Y=x.Y)) (fun _=>false) (by omega) (fun k hk=>by
  unfold lT
  rw [if_pos (by omega),iO hi,Option.bind_some,iO (show k<d.aI.length by omega),Option.bind_some,List.getElem_take]
  by_cases c:d.aI[i].X=(d.aI[k]'(by omega)).X∧d.aI[i].Y=(d.aI[k]'(by omega)).Y
  ·rw [if_pos c,if_pos (decide_eq_true c)]
  ·rw [if_neg c,if_neg (by simpa using c)]) (by unfold lT;rw [if_neg (by omega)])
 have e2:=uT (f:=bF (d.aI.take i) d.aI[i]) (d.aI.take i) (fun x=>decide (d.aI[i].X=x.X∧d.aI[i].Y=x.Y)) (fun k=>(k:Int)) (by omega) (fun k hk=>by
  unfold bF
  rw [if_pos (by omega),iO hk,Option.bind_some]
  by_cases c:d.aI[i].X=(d.aI.take i)[k].X∧d.aI[i].Y=(d.aI.take i)[k].Y
  ·rw [if_pos c,if_pos (decide_eq_true c)]
  ·rw [if_neg c,if_neg (by simpa using c)]) (by unfold bF;rw [if_neg (by omega)])
 unfold bG eu
 rcases e1 with ⟨a1,a2⟩ | ⟨k,hk,a1,_,a2⟩<;>rcases e2 with ⟨b1,b2⟩ | ⟨m,hm,b1,_,b2⟩
 ·exact ⟨false,by rw [a2];rfl,by rw [b2];rfl⟩
 ·have:=a1 _ (List.getElem_mem hm)
  rw [b1] at this
  cases this
 ·have:=b1 _ (List.getElem_mem hk)
  rw [a1] at this
  cases this
 ·refine ⟨true,by rw [a2];rfl,?_⟩
  rw [b2]
  show some (decide ((m:Int)≥0))=_
  rw [decide_eq_true (by omega)]
theorem ZZ (d:aB) (hp:d.aI.length≤1048576) {i:Nat} (hi:i<d.aI.length):
 ∃w:Bool,lU d (i:Int)=(if w=true then some (.inl (((i+1:Nat):Int))) else some (.inr (.inr false)))∧dS d (i:Int)=(if w=true then some (.inl (((i+1:Nat):Int))) else some (.inr (.inr false))):=by
 obtain ⟨b,b1,b2⟩:=ah8 d hi hp
 have hs:slc d.aI 0 (i:Int)=some (d.aI.take i):=by
  unfold slc
  rw [if_pos ⟨by omega,by omega,by omega⟩]
  simp
 unfold lU dS bW fJ
 rw [if_pos (by omega),if_pos (by omega),iO hi,b1,hs,bI (by omega)]
 simp only [Option.bind_some,b2]
 cases (decide (d.aI[i].X≥0)&&decide (d.aI[i].X≤d.Width)) with
 | false=>exact ⟨false,rfl,rfl⟩
 | true=>
  cases (decide (d.aI[i].Y≥0)&&decide (d.aI[i].Y≤d.Height)) with
  | false=>exact ⟨false,rfl,rfl⟩
  | true=>
   cases b with
   | true=>exact ⟨false,rfl,rfl⟩
   | false=>exact ⟨true,rfl,rfl⟩
theorem X0 (d:aB) (hb:uA d) {i:Nat} (hi:i<d.ai.length):
 ∃w:Bool,rP d (i:Int)=(if w=true then some (.inl (((i+1:Nat):Int))) else some (.inr (.inr false)))∧dO d (i:Int)=(if w=true then some (.inl (((i+1:Nat):Int))) else some (.inr (.inr false))):=by
 obtain ⟨_,_,⟨hp,_⟩,⟨hf,hF⟩⟩:=hb
 obtain ⟨n,n1,n2⟩:=WW (d.ai[i]).Name
 obtain ⟨r,r1,r2⟩:=acD d.aI (d.ai[i]).Ring hp (hF _ (List.getElem_mem hi)).2.1
 obtain ⟨q,q1,q2⟩:=acC r.1 r2
 have hc:(i:Int) < (d.ai.length:Int):=by omega
 unfold rP dO
 rw [if_pos hc,if_pos hc,iO hi,bI (by omega)]
 simp only [Option.bind_some,agw,r1,q1,q2,n1,n2]
 have tail:∀t:Bool,∃w:Bool,(if t=true then (some (.inr (.inr false)):Option (Int ⊕ (Unit ⊕ Bool))) else (if r.2=true then some (!q) else some true).bind fun Je=>if Je=true then some (.inr (.inr false)) else some (.inl ((i+1:Nat):Int)))=(if w=true then some (.inl (((i+1:Nat):Int))) else some (.inr (.inr false))):=by
  intro t
  cases t
  ·cases r.2
   ·exact ⟨false,rfl⟩
   ·cases q
    ·exact ⟨false,rfl⟩
    ·exact ⟨true,rfl⟩
  ·exact ⟨false,rfl⟩
 cases n with
 | false=>exact ⟨false,rfl,rfl⟩
 | true=>
  by_cases c:(i:Int) >0
  ·simp only [if_pos c,if_true]
   rw [TK (by omega) (by omega),iO (show i - 1<d.ai.length by omega)]
   simp only [Option.bind_some]
   obtain ⟨w,hw⟩:=tail (!Op.bytesLess (d.ai[i - 1]'(by omega)).Name.toList (d.ai[i]).Name.toList)
   exact ⟨w,hw,hw⟩
  ·simp only [if_neg c,if_true,Option.bind_some]
   obtain ⟨w,hw⟩:=tail false
   exact ⟨w,hw,hw⟩
theorem Rq (d:aB) (hb:uA d):∃v,tH d=some v∧iJ d=some v:=by
 obtain ⟨_,_,⟨hp,_⟩,⟨hf,_⟩⟩:=id hb
 obtain ⟨o1,p1,p2,p3⟩:=PI (f:=lU d) (g:=dS d) hp (fun i hi=>ZZ d hp hi) (by unfold lU;rw [if_neg (by omega)]) (by unfold dS;rw [if_neg (by omega)])
 obtain ⟨o2,f1,f2,f3⟩:=PI (f:=rP d) (g:=dO d) hf (fun i hi=>X0 d hb hi) (by unfold rP;rw [if_neg (by omega)]) (by unfold dO;rw [if_neg (by omega)])
 unfold tH iJ tC
 rw [p1,p2,f1,f2]
 simp only [vin,bW,Option.bind_some]
 cases (decide (d.Width≥10)&&decide (d.Width≤20000)) with
 | false=>exact ⟨false,rfl,rfl⟩
 | true=>
  cases (decide (d.Height≥10)&&decide (d.Height≤20000)) with
  | false=>exact ⟨false,rfl,rfl⟩
  | true=>
   by_cases c1:(d.aI.length:Int) >48
   ·simp only [if_pos c1]
    exact ⟨false,rfl,rfl⟩
   ·simp only [if_neg c1]
    cases decide ((d.ai.length:Int) >24) with
    | true=>rcases p3 with rfl | rfl<;>exact ⟨false,rfl,rfl⟩
    | false=>rcases p3 with rfl | rfl<;>rcases f3 with rfl | rfl<;>exact ⟨_,rfl,rfl⟩
def cr (a b c:ae):Int:=(b.X - a.X) * (c.Y - a.Y) - (b.Y - a.Y) * (c.X - a.X)
def Pt (a:ae):Prop:=0≤a.X∧a.X≤20000∧0≤a.Y∧a.Y≤20000
theorem EF (a b c:ae):cr b c a=cr a b c:=by
 unfold cr
 simp only [Int.sub_mul,Int.mul_sub]
 have e1:=Int.mul_comm c.X a.Y
 have e2:=Int.mul_comm c.Y a.X
 have e3:=Int.mul_comm c.X b.Y
 have e4:=Int.mul_comm c.Y b.X
 have e5:=Int.mul_comm b.X a.Y
 have e6:=Int.mul_comm b.Y a.X
 have e7:=Int.mul_comm b.X b.Y
 have e8:=Int.mul_comm c.X c.Y
 have e9:=Int.mul_comm a.X a.Y
 omega
theorem Rt {x y:Int} (h1:-20000≤x) (h2:x≤20000) (h3:-20000≤y) (h4:y≤20000):-400000000≤x*y∧x*y≤400000000:=by
 have a1:0≤(20000 - x) * (20000+y):=Int.mul_nonneg (by omega) (by omega)
 have a2:0≤(20000+x) * (20000 - y):=Int.mul_nonneg (by omega) (by omega)
 have a3:0≤(20000 - x) * (20000 - y):=Int.mul_nonneg (by omega) (by omega)
 have a4:0≤(20000+x) * (20000+y):=Int.mul_nonneg (by omega) (by omega)
 simp only [Int.sub_mul,Int.mul_sub,Int.add_mul,Int.mul_add] at a1 a2 a3 a4
 have e:=Int.mul_comm x 20000
 constructor<;>omega
theorem N7 {a b c:ae} (ha:Pt a) (hb:Pt b) (hc:Pt c) (h:0<cr a b c):nJ a b c=some 1:=by
 obtain ⟨a1,a2,a3,a4⟩:=ha
 obtain ⟨b1,b2,b3,b4⟩:=hb
 obtain ⟨c1,c2,c3,c4⟩:=hc
 unfold cr at h
 obtain ⟨m1,m2⟩:=Rt (x:=b.X - a.X) (y:=c.Y - a.Y) (by omega) (by omega) (by omega) (by omega)
 obtain ⟨m3,m4⟩:=Rt (x:=b.Y - a.Y) (y:=c.X - a.X) (by omega) (by omega) (by omega) (by omega)
 unfold nJ
 rw [aY (n:=b.X - a.X) (by omega) (by omega),aY (n:=c.Y - a.Y) (by omega) (by omega),aY (n:=b.Y - a.Y) (by omega) (by omega),aY (n:=c.X - a.X) (by omega) (by omega)]
 generalize (b.X - a.X) * (c.Y - a.Y)=p at*
 generalize (b.Y - a.Y) * (c.X - a.X)=q at*
 rw [aY (n:=p) (by omega) (by omega),aY (n:=q) (by omega) (by omega),aY (n:=p - q) (by omega) (by omega),if_pos (by omega)]
theorem J7 {a b c:ae} (ha:Pt a) (hb:Pt b) (hc:Pt c) (h:0<cr a b c):sG a b c=some false:=by
 unfold sG
 rw [N7 ha hb hc h,Option.bind_some,if_neg (by decide)]
 rfl
theorem PK {a b c d:ae} (ha:Pt a) (hb:Pt b) (hc:Pt c) (hd:Pt d) (h1:0<cr a b c) (h2:0<cr a b d) (h3:0<cr c d a) (h4:0<cr c d b):iY a b c d=some false:=by
 unfold iY mZ
 rw [N7 ha hb hc h1,N7 ha hb hd h2,J7 ha hb hc h1,J7 ha hb hd h2,J7 hc hd ha h3,J7 hc hd hb h4]
 rfl
theorem Z5 {a b c:ae} (h:0<cr a b c):¬(a.X=b.X∧a.Y=b.Y):=by
 rintro ⟨h1,h2⟩
 unfold cr at h
 rw [h1,h2,Int.sub_self,Int.sub_self,Int.zero_mul,Int.zero_mul] at h
 omega
theorem aey {a:ae} (ha:Pt a):l9 a=some true:=by
 obtain ⟨a1,a2,a3,a4⟩:=ha
 unfold l9
 rw [kC,kC,decide_eq_true ⟨a1,a2⟩,decide_eq_true ⟨a3,a4⟩]
 rfl
theorem WX (p:List ae) (hp:p.length≤1048576) (h:∀a∈p,Pt a):nI p=some true:=by
 unfold nI
 have:=jF (f:=dK p) (fun i:Nat=>(i:Int)) p.length (r:= .inl ()) (fun i hi=>by
  unfold dK
  rw [if_pos (by omega),iO hi,Option.bind_some,aey (h _ (List.getElem_mem hi)),Option.bind_some,if_pos rfl,bI (by omega)]) (by
  unfold dK
  rw [if_neg (by omega)])
 have this:aP (dK p) 0=some (.inl ()):=this
 rw [this]
 rfl
theorem yt {p:List ae} {i:Nat} {a b c:ae} (hn:p.length≤24) (h0:rd p (i:Int)=some a) (h1:rd p (((i+1) % p.length:Nat):Int)=some b) (h2:rd p (((i+2) % p.length:Nat):Int)=some c)
 (ha:Pt a) (hb:Pt b) (hc:Pt c) (h:0<cr a b c) (hi:i<p.length) (hl:aP (aX p (i:Int) a b) ((i+2:Nat):Int)=some (.inl ())):bM p (i:Int)=some (.inl ((i+1:Nat):Int)):=by
 unfold bM
 have w2:w64 ((i:Int)+2)=((i+2:Nat):Int):=by rw [aY (by omega) (by omega)];omega
 rw [if_pos (by omega),h0,Option.bind_some,bI (by omega),uI (by omega),Option.bind_some,h1,Option.bind_some,w2,uI (by omega),Option.bind_some,h2,Option.bind_some,if_neg (Z5 h),J7 ha hb hc h,Option.bind_some,if_neg (by decide),J7 hb hc ha (by rw [EF];exact h)]
 simp only [Option.bind_some]
 rw [if_neg (by decide),hl]
 rfl
theorem BB {p:List ae} {i k:Nat} {a b:ae} (hk:p.length≤k):aP (aX p (i:Int) a b) (k:Int)=some (.inl ()):=by
 refine aV ?_
 unfold aX
 rw [if_neg (by omega)]
theorem PL {p:List ae} {i k:Nat} {a b:ae} (hn:p.length≤24) (hk:k<p.length) (he:(k+1) % p.length=i) (h:aP (aX p (i:Int) a b) ((k+1:Nat):Int)=some (.inl ())):aP (aX p (i:Int) a b) (k:Int)=some (.inl ()):=by
 rw [aT (s':=((k+1:Nat):Int))]
 ·exact h
 ·unfold aX
  rw [if_pos (by omega),bI (by omega),uI (by omega),Option.bind_some,if_neg (by rw [he];simp)]
  rfl
theorem PN {p:List ae} {i k:Nat} {a b c d:ae} (hn:p.length≤24) (hk:k<p.length) (he:(k+1) % p.length≠i) (h0:rd p (k:Int)=some c) (h1:rd p (((k+1) % p.length:Nat):Int)=some d) (ht:iY a b c d=some false)
 (h:aP (aX p (i:Int) a b) ((k+1:Nat):Int)=some (.inl ())):aP (aX p (i:Int) a b) (k:Int)=some (.inl ()):=by
 rw [aT (s':=((k+1:Nat):Int))]
 ·exact h
 ·unfold aX
  rw [if_pos (by omega),bI (by omega),uI (by omega),Option.bind_some,if_pos (by omega),h0,Option.bind_some,Option.bind_some,h1,Option.bind_some,ht]
  rfl
def cx (a b:ae):Int:=a.X*b.Y - a.Y*b.X
theorem X3 {a b:ae} (ha:Pt a) (hb:Pt b):w64 ((w64 (a.X*b.Y)) - (w64 (a.Y*b.X)))=cx a b∧-800000000≤cx a b∧cx a b≤800000000:=by
 obtain ⟨a1,a2,a3,a4⟩:=ha
 obtain ⟨b1,b2,b3,b4⟩:=hb
 obtain ⟨m1,m2⟩:=Rt (x:=a.X) (y:=b.Y) (by omega) (by omega) (by omega) (by omega)
 obtain ⟨m3,m4⟩:=Rt (x:=a.Y) (y:=b.X) (by omega) (by omega) (by omega) (by omega)
 unfold cx
 rw [aY (n:=a.X*b.Y) (by omega) (by omega),aY (n:=a.Y*b.X) (by omega) (by omega),aY (n:=a.X*b.Y - a.Y*b.X) (by omega) (by omega)]
 exact ⟨rfl,by omega,by omega⟩
theorem BC {p:List ae} {i:Nat} {a b:ae} {s:Int} (hn:p.length≤24) (hi:i<p.length) (h0:rd p (i:Int)=some a) (h1:rd p (((i+1) % p.length:Nat):Int)=some b) (ha:Pt a) (hb:Pt b) (hs0:-100000000000≤s) (hs1:s≤100000000000):
 fB p (s,(i:Int))=some (.inl (s+cx a b,((i+1:Nat):Int))):=by
 obtain ⟨e,e1,e2⟩:=X3 ha hb
 unfold fB
 simp only
 rw [if_pos (by omega),h0,Option.bind_some,bI (by omega),uI (by omega),Option.bind_some,h1,Option.bind_some,e,aY (n:=s+cx a b) (by omega) (by omega)]
theorem WY {p:List ae} {s:Int}:fB p (s,(p.length:Int))=some (.inr s):=by
 unfold fB
 simp only
 rw [if_neg (by omega)]
theorem Z8 (a b c:ae):cx a b+cx b c+cx c a=cr a b c:=by
 unfold cx cr
 simp only [Int.sub_mul,Int.mul_sub]
 have e1:=Int.mul_comm c.X a.Y
 have e2:=Int.mul_comm c.Y a.X
 have e3:=Int.mul_comm c.X b.Y
 have e4:=Int.mul_comm c.Y b.X
 have e5:=Int.mul_comm b.X a.Y
 have e6:=Int.mul_comm b.Y a.X
 have e9:=Int.mul_comm a.X a.Y
 omega
theorem ads {a b c:ae} (ha:Pt a) (hb:Pt b) (hc:Pt c) (h:0<cr a b c):fE [a,b,c]=some true:=by
 have hv:=WX [a,b,c] (by simp) (by simp [ha,hb,hc])
 have hbc:0<cr b c a:=by rw [EF];exact h
 have hca:0<cr c a b:=by rw [EF,EF];exact h
 have l0:aP (aX [a,b,c] ((0:Nat):Int) a b) ((0+2:Nat):Int)=some (.inl ()):=PL (k:=2) (by simp) (by simp) (by simp) (BB (by simp))
 have c0:=yt (p:=[a,b,c]) (i:=0) (by simp) (by simp [rd]) (by simp [rd]) (by simp [rd]) ha hb hc h (by simp) l0
 have c1:=yt (p:=[a,b,c]) (i:=1) (by simp) (by simp [rd]) (by simp [rd]) (by simp [rd]) hb hc ha hbc (by simp) (BB (by simp))
 have c2:=yt (p:=[a,b,c]) (i:=2) (by simp) (by simp [rd]) (by simp [rd]) (by simp [rd]) hc ha hb hca (by simp) (BB (by simp))
 have hl:aP (bM [a,b,c]) 0=some (.inl ()):=by
  have c0':bM [a,b,c] 0=_:=c0
  rw [aT c0',aT c1,aT c2]
  refine aV ?_
  unfold bM
  rw [if_neg (by simp)]
 have hd:jR [a,b,c]=some (cr a b c):=by
  obtain ⟨_,e1,e2⟩:=X3 ha hb
  obtain ⟨_,e3,e4⟩:=X3 hb hc
  have d0:=BC (p:=[a,b,c]) (i:=0) (s:=0) (by simp) (by simp) (by simp [rd]) (by simp [rd]) ha hb (by omega) (by omega)
  have d1:=BC (p:=[a,b,c]) (i:=1) (s:=0+cx a b) (by simp) (by simp) (by simp [rd]) (by simp [rd]) hb hc (by omega) (by omega)
  have d2:=BC (p:=[a,b,c]) (i:=2) (s:=0+cx a b+cx b c) (by simp) (by simp) (by simp [rd]) (by simp [rd]) hc ha (by omega) (by omega)
  have d0':fB [a,b,c] (0,0)=_:=d0
  have d3:fB [a,b,c] (0+cx a b+cx b c+cx c a,((2+1:Nat):Int))=_:=WY
  unfold jR
  rw [aT d0',aT d1,aT d2,aV d3,Option.bind_some,←Z8,Int.zero_add]
 unfold fE
 rw [if_neg (by simp),if_neg (by simp),hv]
 simp only [Option.bind_some,Bool.not_true,Bool.false_eq_true,if_false]
 rw [hl]
 simp only [Option.bind_some]
 rw [hd,Option.bind_some,decide_eq_true h]
theorem agx {a b c d:ae} (ha:Pt a) (hb:Pt b) (hc:Pt c) (hd:Pt d) (h1:0<cr a b c) (h2:0<cr b c d) (h3:0<cr c d a) (h4:0<cr d a b):fE [a,b,c,d]=some true:=by
 have hv:=WX [a,b,c,d] (by simp) (by simp [ha,hb,hc,hd])
 have abd:0<cr a b d:=by rw [EF];exact h4
 have cdb:0<cr c d b:=by rw [EF];exact h2
 have bca:0<cr b c a:=by rw [EF];exact h1
 have dac:0<cr d a c:=by rw [EF];exact h3
 have t1:iY a b c d=some false:=PK ha hb hc hd h1 abd h3 cdb
 have t2:iY b c d a=some false:=PK hb hc hd ha h2 bca h4 dac
 have l0:aP (aX [a,b,c,d] ((0:Nat):Int) a b) ((0+2:Nat):Int)=some (.inl ()):=
  PN (k:=2) (by simp) (by simp) (by simp) (by simp [rd]) (by simp [rd]) t1 (PL (k:=3) (by simp) (by simp) (by simp) (BB (by simp)))
 have l1:aP (aX [a,b,c,d] ((1:Nat):Int) b c) ((1+2:Nat):Int)=some (.inl ()):=
  PN (k:=3) (by simp) (by simp) (by simp) (by simp [rd]) (by simp [rd]) t2 (BB (by simp))
 have c0:=yt (p:=[a,b,c,d]) (i:=0) (by simp) (by simp [rd]) (by simp [rd]) (by simp [rd]) ha hb hc h1 (by simp) l0
 have c1:=yt (p:=[a,b,c,d]) (i:=1) (by simp) (by simp [rd]) (by simp [rd]) (by simp [rd]) hb hc hd h2 (by simp) l1
 have c2:=yt (p:=[a,b,c,d]) (i:=2) (by simp) (by simp [rd]) (by simp [rd]) (by simp [rd]) hc hd ha h3 (by simp) (BB (by simp))
 have c3:=yt (p:=[a,b,c,d]) (i:=3) (by simp) (by simp [rd]) (by simp [rd]) (by simp [rd]) hd ha hb h4 (by simp) (BB (by simp))
 have hl:aP (bM [a,b,c,d]) 0=some (.inl ()):=by
  have c0':bM [a,b,c,d] 0=_:=c0
  rw [aT c0',aT c1,aT c2,aT c3]
  refine aV ?_
  unfold bM
  rw [if_neg (by simp)]
 have hdb:jR [a,b,c,d]=some (cr a b c+cr c d a):=by
  obtain ⟨_,e1,e2⟩:=X3 ha hb
  obtain ⟨_,e3,e4⟩:=X3 hb hc
  obtain ⟨_,e5,e6⟩:=X3 hc hd
  have d0:=BC (p:=[a,b,c,d]) (i:=0) (s:=0) (by simp) (by simp) (by simp [rd]) (by simp [rd]) ha hb (by omega) (by omega)
  have d1:=BC (p:=[a,b,c,d]) (i:=1) (s:=0+cx a b) (by simp) (by simp) (by simp [rd]) (by simp [rd]) hb hc (by omega) (by omega)
  have d2:=BC (p:=[a,b,c,d]) (i:=2) (s:=0+cx a b+cx b c) (by simp) (by simp) (by simp [rd]) (by simp [rd]) hc hd (by omega) (by omega)
  have d3:=BC (p:=[a,b,c,d]) (i:=3) (s:=0+cx a b+cx b c+cx c d) (by simp) (by simp) (by simp [rd]) (by simp [rd]) hd ha (by omega) (by omega)
  have d0':fB [a,b,c,d] (0,0)=_:=d0
  have d4:fB [a,b,c,d] (0+cx a b+cx b c+cx c d+cx d a,((3+1:Nat):Int))=_:=WY
  have e:cx c a=- cx a c:=by
   unfold cx
   have e1:=Int.mul_comm c.X a.Y
   have e2:=Int.mul_comm c.Y a.X
   omega
  unfold jR
  rw [aT d0',aT d1,aT d2,aT d3,aV d4,Option.bind_some,←Z8 a b c,←Z8 c d a,e]
  congr 1
  omega
 unfold fE
 rw [if_neg (by simp),if_neg (by simp),hv]
 simp only [Option.bind_some,Bool.not_true,Bool.false_eq_true,if_false]
 rw [hl]
 simp only [Option.bind_some]
 rw [hdb,Option.bind_some,decide_eq_true (by omega)]
def Sr (c:List Int) (n:Int) (s:aC):Prop:=s.code=c∧0≤s.at_∧s.at_≤n
theorem Sr.mono {c:List Int} {n m:Int} {s:aC} (h:Sr c n s) (hm:n≤m):Sr c m s:=⟨h.1,h.2.1,by have:=h.2.2;omega⟩
theorem aez (x:Int):0≤LD .u64 x 255∧LD .u64 x 255≤255:=by
 unfold LD
 have h1:(BitVec.ofInt IntKind.u64.bits x &&& BitVec.ofInt IntKind.u64.bits 255).toNat≤255:=by
  rw [BitVec.toNat_and]
  exact Nat.le_trans Nat.and_le_right (by decide)
 generalize (BitVec.ofInt IntKind.u64.bits x &&& BitVec.ofInt IntKind.u64.bits 255).toNat=k at h1
 have e:IntKind.wrap .u64 (k:Int)=(k:Int):=by
  simp only [IntKind.wrap,IntKind.signed,IntKind.bits]
  simp
  omega
 rw [e]
 omega
theorem WZ {c:List Int} (hc:∀x∈c,0≤x∧x≤255) {n:Int} (hn:n≤1000000000) {s:aC} (h:Sr c n s):∃v s',nC s=some (v,s')∧0≤v∧v≤255∧Sr c (n+1) s':=by
 obtain ⟨h1,h2,h3⟩:=h
 have e1:w64 (s.at_+1)=s.at_+1:=aY (by omega) (by omega)
 have k4:∀b,0≤b→b≤255→∃v s',jZ s b=some (v,s')∧0≤v∧v≤255∧Sr c (n+1) s':=by
  intro b b1 b2
  unfold jZ shr
  rw [e1]
  by_cases q:s.at_+1≤(s.code.length:Int)
  ·rw [if_pos q]
   exact ⟨_,_,rfl,b1,b2,h1,by show 0≤s.at_+1;omega,by show s.at_+1≤n+1;omega⟩
  ·rw [if_neg q,if_neg (by decide)]
   simp only [Option.bind_some]
   have a:=aez (Int.fdiv (IntKind.wrap .u64 ((IntKind.wrap .u64 ((IntKind.wrap .u64 (s.seed*6364136223846793005))+(IntKind.wrap .u64 b)))+1442695040888963407)) (2 ^ min (Int.toNat 40) IntKind.u64.bits))
   refine ⟨_,_,rfl,?_,?_,h1,by show 0≤s.at_+1;omega,by show s.at_+1≤n+1;omega⟩
   ·rw [aY (by omega) (by omega)];exact a.1
   ·rw [aY (by omega) (by omega)];exact a.2
 unfold nC
 by_cases q:s.at_< (s.code.length:Int)
 ·rw [if_pos q]
  obtain ⟨i,hi⟩:∃i:Nat,s.at_=(i:Int):=⟨s.at_.toNat,by omega⟩
  have hlt:i<s.code.length:=by omega
  rw [hi,iO hlt,Option.bind_some]
  have hb:=hc s.code[i] (by rw [←h1];exact List.getElem_mem hlt)
  rw [aY (by omega) (by omega)]
  exact k4 _ hb.1 hb.2
 ·rw [if_neg q]
  exact k4 0 (by omega) (by omega)
theorem lY {c:List Int} (hc:∀x∈c,0≤x∧x≤255) {n:Int} (hn:n≤999999999) {s:aC} (h:Sr c n s) (m:Int):∃v s',bf s m=some (v,s')∧0≤v∧(1≤m→v<m)∧Sr c (n+2) s':=by
 unfold bf
 by_cases q:m≤1
 ·rw [if_pos q]
  exact ⟨_,_,rfl,by omega,by omega,h.mono (by omega)⟩
 ·rw [if_neg q]
  obtain ⟨v,s1,e1,v1,v2,h1⟩:=WZ hc (by omega) h
  have k6:∀(x:Int) (t:aC),0≤x→Sr c (n+2) t→∃v s',ku m x t.code t.at_ t.seed=some (v,s')∧0≤v∧(1≤m→v<m)∧Sr c (n+2) s':=by
   intro x t hx ht
   unfold ku md
   rw [if_neg (by omega),Option.bind_some]
   have e:x.tmod m=x % m:=Int.tmod_eq_emod_of_nonneg hx
   refine ⟨_,_,rfl,?_,fun _=>?_,ht⟩
   ·rw [e];exact Int.emod_nonneg _ (by omega)
   ·rw [e];exact Int.emod_lt_of_pos _ (by omega)
  simp only [e1,Option.bind_some]
  by_cases q2:m>200
  ·rw [if_pos q2]
   obtain ⟨w,s2,e2,w1,w2,h2⟩:=WZ hc (n:=n+1) (by omega) h1
   simp only [e2,Option.bind_some]
   have a1:w64 (v*256)=v*256:=aY (by omega) (by omega)
   have a2:w64 (v*256+w)=v*256+w:=aY (by omega) (by omega)
   rw [a1,a2]
   exact k6 _ s2 (by omega) (h2.mono (by omega))
  ·rw [if_neg q2]
   exact k6 v s1 v1 (h1.mono (by omega))
theorem N8 {c:List Int} (hc:∀x∈c,0≤x∧x≤255) {n:Int} (hn:n≤999999999) {s:aC} (h:Sr c n s) (m:Int):∃v s',iW s m=some (v,s')∧Sr c (n+2) s':=by
 obtain ⟨v,s',e,_,_,h'⟩:=lY hc hn h m
 unfold iW
 rw [e]
 exact ⟨_,_,rfl,h'⟩
theorem N9 {c:List Int} (hc:∀x∈c,0≤x∧x≤255) {n:Int} (hn:n≤999999999) {s:aC} (h:Sr c n s) (l:List Int) (hl:1≤l.length):∃v s',jP s l=some (v,s')∧v∈l∧Sr c (n+2) s':=by
 obtain ⟨v,s',e,v1,v2,h'⟩:=lY hc hn h (l.length:Int)
 have v3:=v2 (by omega)
 obtain ⟨i,hi⟩:∃i:Nat,v=(i:Int):=⟨v.toNat,by omega⟩
 subst hi
 have hlt:i<l.length:=by omega
 unfold jP
 rw [e]
 simp only [Option.bind_some,iO hlt]
 exact ⟨_,_,rfl,List.getElem_mem hlt,h'⟩
theorem W9 (c:List Int):∃s,wo c=some s∧Sr c 0 s:=⟨_,rfl,rfl,by show (0:Int)≤0;omega,by show (0:Int)≤0;omega⟩
def dg (k:Nat):ByteArray:=⟨#[UInt8.ofNat (48+k)]⟩
def gnm (y x:Nat):ByteArray:=((⟨#[102]⟩:ByteArray)++dg y)++dg x
def Xs (l:List Int) (k:Nat):Prop:=l.length=k+1∧l.getD 0 0=0∧∀i,i<k→l.getD i 0+20≤l.getD (i+1) 0∧l.getD (i+1) 0≤l.getD i 0+219
def gP (nx:Nat) (xs ys:List Int) (i:Nat):ae:=⟨xs.getD (i % (nx+1)) 0,ys.getD (i / (nx+1)) 0⟩
def gk (nx y x:Nat):Int:=((y* (nx+1)+x:Nat):Int)
def gF1 (nx y x:Nat):aj:=⟨gnm y x,[gk nx y x,gk nx y x+1,gk nx y x+nx+2,gk nx y x+nx+1]⟩
def gF (nx:Nat) (i:Nat):aj:=gF1 nx (i / nx) (i % nx)
theorem Xs.bd {l:List Int} {k:Nat} (h:Xs l k):∀i,i≤k→0≤l.getD i 0∧l.getD i 0≤219*i:=by
 intro i
 induction i with
 | zero=>intro _;rw [h.2.1];omega
 | succ i ih=>
  intro hi
  have:=ih (by omega)
  have:=h.2.2 i (by omega)
  omega
theorem Xs.snoc {l:List Int} {k:Nat} (h:Xs l k) {v:Int} (h0:0≤v) (h1:v<200):Xs (l++[l.getD k 0+20+v]) (k+1):=by
 have hg:∀i,i≤k→(l++[l.getD k 0+20+v]).getD i 0=l.getD i 0:=by
  intro i hi
  simp only [List.getD_eq_getElem?_getD]
  rw [List.getElem?_append_left (by rw [h.1];omega)]
 refine ⟨by simp [h.1],by rw [hg 0 (by omega)];exact h.2.1,fun i hi=>?_⟩
 by_cases c:i<k
 ·rw [hg i (by omega),hg (i+1) (by omega)]
  exact h.2.2 i c
 ·have:i=k:=by omega
  subst this
  have e:(l++[l.getD i 0+20+v]).getD (i+1) 0=l.getD i 0+20+v:=by
   rw [List.getD_eq_getElem?_getD,List.getElem?_append_right (by rw [h.1];omega),h.1]
   simp
  rw [hg i (by omega),e]
  omega
theorem agy {k:Nat} (h:k<3):sW (k:Int)=some (dg k):=by
 have h3:k=0∨k=1∨k=2:=by omega
 rcases h3 with rfl | rfl | rfl
 ·rfl
 ·have e1:jk (1,[])=some (.inl (0,[49])):=rfl
  have e2:jk (0,[49])=some (.inr [49]):=rfl
  have e:aP jk (1,[])=some [49]:=by rw [aT e1,aV e2]
  unfold sW
  rw [if_neg (by decide)]
  have e':aP jk (((1:Nat):Int),[])=some [49]:=e
  rw [e',Option.bind_some,if_neg (by decide)]
  unfold oH
  have f1:kD [49] (0,[])=some (.inl (-1,[49])):=rfl
  have f2:kD [49] (-1,[49])=some (.inr [49]):=rfl
  have f:aP (kD [49]) (w64 ((([49]:List Int).length:Int) - 1),[])=some [49]:=by
   have g:(w64 ((([49]:List Int).length:Int) - 1),([]:List Int))=(0,[]):=rfl
   rw [g,aT f1,aV f2]
  rw [f,Option.bind_some]
  rfl
 ·have e1:jk (2,[])=some (.inl (0,[50])):=rfl
  have e2:jk (0,[50])=some (.inr [50]):=rfl
  have e:aP jk (2,[])=some [50]:=by rw [aT e1,aV e2]
  unfold sW
  rw [if_neg (by decide)]
  have e':aP jk (((2:Nat):Int),[])=some [50]:=e
  rw [e',Option.bind_some,if_neg (by decide)]
  unfold oH
  have f1:kD [50] (0,[])=some (.inl (-1,[50])):=rfl
  have f2:kD [50] (-1,[50])=some (.inr [50]):=rfl
  have f:aP (kD [50]) (w64 ((([50]:List Int).length:Int) - 1),[])=some [50]:=by
   have g:(w64 ((([50]:List Int).length:Int) - 1),([]:List Int))=(0,[]):=rfl
   rw [g,aT f1,aV f2]
  rw [f,Option.bind_some]
  rfl
theorem adt {c:List Int} (hc:∀x∈c,0≤x∧x≤255) {x16:Int×aC} {nx:Nat} (hx:1+x16.1=(nx:Int)) (hx3:nx≤3) {n:Int} (hn:n≤900000000):
 ∀(m k:Nat) (t:aC) (l:List Int),k+m=nx→Xs l k→Sr c (n+2*k) t→∃r,aP (jm x16) ((k:Int),t.code,t.at_,t.seed,l)=some r∧Xs r.2.2.2 nx∧Sr c (n+2*nx) ⟨r.1,r.2.1,r.2.2.1⟩:=by
 intro m
 induction m with
 | zero=>
  intro k t l hk hl ht
  refine ⟨(t.code,t.at_,t.seed,l),aV ?_,by rw [←hk];exact hl,by rw [←hk];exact ht⟩
  unfold jm
  simp only
  rw [aY (n:=1+x16.1) (by omega) (by omega),if_neg (by omega)]
 | succ m ih=>
  intro k t l hk hl ht
  obtain ⟨v,t',e,v0,v1,ht'⟩:=lY hc (by omega) ht 200
  have hb:=hl.bd k (Nat.le_refl _)
  have hk3:k<3:=by omega
  have S1:jm x16 ((k:Int),t.code,t.at_,t.seed,l)=some (.inl (((k+1:Nat):Int),t'.code,t'.at_,t'.seed,l++[l.getD k 0+20+v])):=by
   unfold jm
   simp only
   have e':bf ⟨t.code,t.at_,t.seed⟩ 200=some (v,t'):=e
   rw [aY (n:=1+x16.1) (by omega) (by omega),if_pos (by omega),Jq 0 (by rw [hl.1];omega),Option.bind_some,e',Option.bind_some,aY (n:=l.getD k 0+20) (by omega) (by omega),aY (n:=l.getD k 0+20+v) (by omega) (by omega),yS (by rw [hl.1];simp;omega),Option.bind_some,bI (by omega)]
  rw [aT S1]
  exact ih (k+1) t' _ (by omega) (hl.snoc v0 (by omega)) (ht'.mono (by omega))
theorem aeA:xR=jm:=by
 funext x s
 rfl
theorem aeB {x16:Int×aC} {nx:Nat} (hx:1+x16.1=(nx:Int)) (hx3:nx≤3) {xs ys:List Int} (h1:xs.length=nx+1) {y:Nat} (hy:y<ys.length) (hy4:y≤3):
 ∀(m k:Nat),k+m=nx+1→aP (kP x16 xs (y:Int) ys) ((k:Int),(List.range (y* (nx+1)+k)).map (gP nx xs ys))=some ((List.range (y* (nx+1)+(nx+1))).map (gP nx xs ys)):=by
 intro m
 induction m with
 | zero=>
  intro k hk
  have:k=nx+1:=by omega
  subst this
  refine aV ?_
  unfold kP
  simp only
  rw [aY (n:=1+x16.1) (by omega) (by omega),if_neg (by omega)]
 | succ m ih=>
  intro k hk
  have hm:y* (nx+1)≤3* (nx+1):=Nat.mul_le_mul_right _ hy4
  have S1:kP x16 xs (y:Int) ys ((k:Int),(List.range (y* (nx+1)+k)).map (gP nx xs ys))=some (.inl (((k+1:Nat):Int),(List.range (y* (nx+1)+(k+1))).map (gP nx xs ys))):=by
   unfold kP
   simp only
   rw [aY (n:=1+x16.1) (by omega) (by omega),if_pos (by omega),Jq 0 (by omega),Option.bind_some,Jq 0 hy,Option.bind_some,yS (by simp;omega),Option.bind_some,bI (by omega)]
   have e1:(y* (nx+1)+k) % (nx+1)=k:=by rw [Nat.mul_comm,Nat.mul_add_mod,Nat.mod_eq_of_lt (by omega)]
   have e2:(y* (nx+1)+k) / (nx+1)=y:=by rw [Nat.mul_comm,Nat.mul_add_div (by omega),Nat.div_eq_of_lt (by omega),Nat.add_zero]
   have e3:gP nx xs ys (y* (nx+1)+k)=⟨xs.getD k 0,ys.getD y 0⟩:=by unfold gP;rw [e1,e2]
   rw [show y* (nx+1)+(k+1)=y* (nx+1)+k+1 by omega,List.range_succ,List.map_append,List.map_singleton,e3]
  rw [aT S1]
  exact ih (k+1) (by omega)
theorem acE {x16 x19:Int×aC} {nx ny:Nat} (hx:1+x16.1=(nx:Int)) (hx3:nx≤3) (hy:1+x19.1=(ny:Int)) (hy3:ny≤3) {xs ys:List Int} (h1:xs.length=nx+1) (h2:ys.length=ny+1):
 ∀(m k:Nat),k+m=ny+1→aP (kQ x16 x19 xs ys) ((k:Int),(List.range (k* (nx+1))).map (gP nx xs ys))=some ((List.range ((ny+1) * (nx+1))).map (gP nx xs ys)):=by
 intro m
 induction m with
 | zero=>
  intro k hk
  have:k=ny+1:=by omega
  subst this
  refine aV ?_
  unfold kQ
  simp only
  rw [aY (n:=1+x19.1) (by omega) (by omega),if_neg (by omega)]
 | succ m ih=>
  intro k hk
  have r:=aeB hx hx3 h1 (ys:=ys) (y:=k) (by omega) (by omega) (nx+1) 0 (by omega)
  rw [Nat.add_zero] at r
  have r:aP (kP x16 xs (k:Int) ys) (0,(List.range (k* (nx+1))).map (gP nx xs ys))=_:=r
  have S1:kQ x16 x19 xs ys ((k:Int),(List.range (k* (nx+1))).map (gP nx xs ys))=some (.inl (((k+1:Nat):Int),(List.range ((k+1) * (nx+1))).map (gP nx xs ys))):=by
   unfold kQ
   simp only
   rw [aY (n:=1+x19.1) (by omega) (by omega),if_pos (by omega),r,Option.bind_some,bI (by omega),Nat.succ_mul]
  rw [aT S1]
  exact ih (k+1) (by omega)
theorem acF {x16:Int×aC} {nx:Nat} (hx:1+x16.1=(nx:Int)) (hx1:1≤nx) (hx3:nx≤3) {y:Nat} (hy:y<3):
 ∀(m k:Nat),k+m=nx→aP (kL x16 (y:Int)) ((k:Int),(List.range (y*nx+k)).map (gF nx))=some ((List.range (y*nx+nx)).map (gF nx)):=by
 intro m
 induction m with
 | zero=>
  intro k hk
  have:k=nx:=by omega
  subst this
  refine aV ?_
  unfold kL
  simp only
  rw [aY (n:=1+x16.1) (by omega) (by omega),if_neg (by omega)]
 | succ m ih=>
  intro k hk
  have hm:y*nx≤2*nx:=Nat.mul_le_mul_right _ (by omega)
  have hm2:y* (nx+1)≤2* (nx+1):=Nat.mul_le_mul_right _ (by omega)
  have g1:(y:Int) * (nx+1)=((y* (nx+1):Nat):Int):=by push_cast;rfl
  have S1:kL x16 (y:Int) ((k:Int),(List.range (y*nx+k)).map (gF nx))=some (.inl (((k+1:Nat):Int),(List.range (y*nx+(k+1))).map (gF nx))):=by
   unfold kL
   simp only
   have e0:w64 (1+x16.1)=(nx:Int):=by rw [aY (by omega) (by omega)];exact hx
   have e1:w64 ((nx:Int)+1)=(nx:Int)+1:=aY (by omega) (by omega)
   rw [e0,if_pos (by omega),e1,g1,aY (n:=((y* (nx+1):Nat):Int)) (by omega) (by omega),aY (n:=((y* (nx+1):Nat):Int)+(k:Int)) (by omega) (by omega),aY (n:=((y* (nx+1):Nat):Int)+(k:Int)+1) (by omega) (by omega),aY (n:=((y* (nx+1):Nat):Int)+(k:Int)+(nx:Int)) (by omega) (by omega),aY (n:=((y* (nx+1):Nat):Int)+(k:Int)+(nx:Int)+2) (by omega) (by omega),aY (n:=((y* (nx+1):Nat):Int)+(k:Int)+(nx:Int)+1) (by omega) (by omega),
    agy hy,Option.bind_some,Gg (by show 1+1≤_;omega),Option.bind_some,agy (by omega),Option.bind_some,Gg (by rw [ByteArray.size_append];show (1+1)+1≤_;omega),Option.bind_some,yS (by simp;omega),Option.bind_some,bI (by omega)]
   have d1:(y*nx+k) % nx=k:=by rw [Nat.mul_comm,Nat.mul_add_mod,Nat.mod_eq_of_lt (by omega)]
   have d2:(y*nx+k) / nx=y:=by rw [Nat.mul_comm,Nat.mul_add_div (by omega),Nat.div_eq_of_lt (by omega),Nat.add_zero]
   have e3:gF nx (y*nx+k)=gF1 nx y k:=by unfold gF;rw [d1,d2]
   have e4:((y* (nx+1):Nat):Int)+(k:Int)=gk nx y k:=by unfold gk;omega
   rw [show y*nx+(k+1)=y*nx+k+1 by omega,List.range_succ,List.map_append,List.map_singleton,e3,e4]
   rfl
  rw [aT S1]
  exact ih (k+1) (by omega)
theorem Z9 {x16 x19:Int×aC} {nx ny:Nat} (hx:1+x16.1=(nx:Int)) (hx1:1≤nx) (hx3:nx≤3) (hy:1+x19.1=(ny:Int)) (hy3:ny≤3):
 ∀(m k:Nat),k+m=ny→aP (kM x16 x19) ((k:Int),(List.range (k*nx)).map (gF nx))=some ((List.range (ny*nx)).map (gF nx)):=by
 intro m
 induction m with
 | zero=>
  intro k hk
  have:k=ny:=by omega
  subst this
  refine aV ?_
  unfold kM
  simp only
  rw [aY (n:=1+x19.1) (by omega) (by omega),if_neg (by omega)]
 | succ m ih=>
  intro k hk
  have r:=acF hx hx1 hx3 (y:=k) (by omega) nx 0 (by omega)
  rw [Nat.add_zero] at r
  have r:aP (kL x16 (k:Int)) (0,(List.range (k*nx)).map (gF nx))=_:=r
  have S1:kM x16 x19 ((k:Int),(List.range (k*nx)).map (gF nx))=some (.inl (((k+1:Nat):Int),(List.range ((k+1) *nx)).map (gF nx))):=by
   unfold kM
   simp only
   rw [aY (n:=1+x19.1) (by omega) (by omega),if_pos (by omega),r,Option.bind_some,bI (by omega),Nat.succ_mul]
  rw [aT S1]
  exact ih (k+1) (by omega)
theorem acG {c:List Int} (hc:∀x∈c,0≤x∧x≤255) {n:Int} (hn:n≤800000000) {s:aC} (h:Sr c n s):
 ∃(nx ny:Nat) (xs ys:List Int) (s':aC),1≤nx∧nx≤3∧1≤ny∧ny≤3∧Xs xs nx∧Xs ys ny∧Sr c (n+20) s'∧
  wB s=some (⟨xs.getD nx 0,ys.getD ny 0,(List.range ((ny+1) * (nx+1))).map (gP nx xs ys),(List.range (ny*nx)).map (gF nx)⟩,s'):=by
 obtain ⟨v1,s1,e1,a0,a1,h1⟩:=lY hc (by omega) h 3
 obtain ⟨v2,s2,e2,b0,b1,h2⟩:=lY hc (by omega) h1 3
 obtain ⟨nx,hx⟩:∃nx:Nat,1+v1=(nx:Int):=⟨(1+v1).toNat,by omega⟩
 obtain ⟨ny,hy⟩:∃ny:Nat,1+v2=(ny:Int):=⟨(1+v2).toNat,by omega⟩
 obtain ⟨⟨p1,p2,p3,xs⟩,q1,q2,q3⟩:=adt hc (x16:=(v1,s1)) hx (by omega) (n:=n+4) (by omega) nx 0 s2 [0] (by omega) ⟨rfl,rfl,fun i hi=>by omega⟩ (h2.mono (by omega))
 obtain ⟨⟨r1,r2,r3,ys⟩,t1,t2,t3⟩:=adt hc (x16:=(v2,s2)) hy (by omega) (n:=n+10) (by omega) ny 0 ⟨p1,p2,p3⟩ [0] (by omega) ⟨rfl,rfl,fun i hi=>by omega⟩ (q3.mono (by omega))
 have q1:aP (jm (v1,s1)) (0,s2.code,s2.at_,s2.seed,[0])=_:=q1
 have t1:aP (jm (v2,s2)) (0,p1,p2,p3,[0])=_:=t1
 have u1:=acE (x16:=(v1,s1)) (x19:=(v2,s2)) hx (by omega) hy (by omega) q2.1 t2.1 (ny+1) 0 (by omega)
 have u2:=Z9 (x16:=(v1,s1)) (x19:=(v2,s2)) hx (by omega) (by omega) hy (by omega) ny 0 (by omega)
 rw [Nat.zero_mul] at u1 u2
 have u1:aP (kQ (v1,s1) (v2,s2) xs ys) (0,[])=_:=u1
 have u2:aP (kM (v1,s1) (v2,s2)) (0,[])=_:=u2
 refine ⟨nx,ny,xs,ys,⟨r1,r2,r3⟩,by omega,by omega,by omega,by omega,q2,t2,t3.mono (by omega),?_⟩
 unfold wB
 rw [e1,Option.bind_some,e2,Option.bind_some,q1,Option.bind_some]
 simp only
 rw [aeA,t1,Option.bind_some]
 simp only
 rw [aY (n:=1+v1) (by omega) (by omega),aY (n:=1+v2) (by omega) (by omega),hx,hy,Jq 0 (by rw [q2.1];omega),Option.bind_some,Jq 0 (by rw [t2.1];omega),Option.bind_some,u1,Option.bind_some,u2,Option.bind_some]
def nmB (a:ByteArray):ByteArray:=a++(⟨#[98]⟩:ByteArray)
def N2 (L:List ByteArray):List ByteArray:=L.flatMap fun a=>[a,nmB a]
def Lt (a b:ByteArray):Prop:=Op.bytesLess a.toList b.toList=true
def FOK (pts:List ae) (f:aj):Prop:=kE f.Name=some true∧f.Name.size≤10∧f.Ring.length≤4∧∃poly,gJ pts f.Ring=some (poly,true)∧fE poly=some true
def Base (pts:List ae) (f:aj):Prop:=∃a b c d,f.Ring=[a,b,c,d]∧FOK pts f∧FOK pts ⟨f.Name,[a,b,c]⟩∧FOK pts ⟨nmB f.Name,[a,c,d]⟩
structure DOK (d:aB):Prop where
 w:10≤d.Width∧d.Width≤20000
 h:10≤d.Height∧d.Height≤20000
 pl:d.aI.length≤48
 pl0:2≤d.aI.length
 pin:∀p∈d.aI,0≤p.X∧p.X≤d.Width∧0≤p.Y∧p.Y≤d.Height
 pdf:∀(i j:Nat) (hi:i<d.aI.length) (hj:j<i),¬(d.aI[i].X=(d.aI[j]'(by omega)).X∧d.aI[i].Y=(d.aI[j]'(by omega)).Y)
 fl:d.ai.length≤24
 fl0:1≤d.ai.length
 fn:(d.ai.map (·.Name)).Pairwise Lt
 fok:∀f∈d.ai,FOK d.aI f
theorem TL {l:List ae} {p:ae} (hl:l.length≤1048576) (h:∀x∈l,¬(p.X=x.X∧p.Y=x.Y)):bG l p=some false:=by
 unfold bG eu
 rcases uT (f:=bF l p) l (fun x=>decide (p.X=x.X∧p.Y=x.Y)) (fun k=>(k:Int)) (by omega) (fun k hk=>by
  unfold bF
  rw [if_pos (by omega),iO hk,Option.bind_some]
  by_cases c:p.X=l[k].X∧p.Y=l[k].Y
  ·rw [if_pos c,if_pos (decide_eq_true c)]
  ·rw [if_neg c,if_neg (by simpa using c)]) (by unfold bF;rw [if_neg (by omega)]) with ⟨_,b2⟩ | ⟨m,hm,b1,_,_⟩
 ·rw [b2];rfl
 ·exact absurd (of_decide_eq_true b1) (h _ (List.getElem_mem hm))
theorem X4 {d:aB} (h:DOK d):iJ d=some true:=by
 have hp:=h.pl
 have hf:=h.fl
 have L4:aP (dS d) 0=some (.inl ()):=by
  refine jF (f:=dS d) (fun i:Nat=>(i:Int)) d.aI.length (fun i hi=>?_) ?_
  ·have hs:slc d.aI 0 (i:Int)=some (d.aI.take i):=by
    unfold slc
    rw [if_pos ⟨by omega,by omega,by omega⟩]
    simp
   obtain ⟨q1,q2,q3,q4⟩:=h.pin _ (List.getElem_mem hi)
   have hc:bG (d.aI.take i) d.aI[i]=some false:=by
    refine TL (by rw [List.length_take];omega) fun x hx=>?_
    obtain ⟨j,hj,rfl⟩:=List.mem_iff_getElem.1 hx
    rw [List.length_take] at hj
    rw [List.getElem_take]
    exact h.pdf i j hi (by omega)
   unfold dS
   rw [if_pos (by omega),iO hi,Option.bind_some,kC,kC,decide_eq_true ⟨q1,q2⟩,decide_eq_true ⟨q3,q4⟩,hs]
   simp only [Option.bind_some,if_true,hc,Bool.false_eq_true,if_false]
   rw [bI (by omega)]
  ·unfold dS
   rw [if_neg (by omega)]
 have L10:aP (dO d) 0=some (.inl ()):=by
  refine jF (f:=dO d) (fun i:Nat=>(i:Int)) d.ai.length (fun i hi=>?_) ?_
  ·obtain ⟨n1,n2,n3,poly,n4,n5⟩:=h.fok _ (List.getElem_mem hi)
   unfold dO
   rw [if_pos (by omega),iO hi,Option.bind_some,n1]
   simp only [Option.bind_some,if_true]
   have tail:((gJ d.aI d.ai[i].Ring).bind fun x95=>(if x95.2=true then ((fE x95.1).bind fun x102=>some (!x102)) else (some true)).bind fun Dx=>if Dx=true then (some (.inr (.inr false))) else (some (.inl (w64 ((i:Int)+1)))))=(some (.inl ((i+1:Nat):Int)):Option (Int ⊕ (Unit ⊕ Bool))):=by
    rw [n4]
    simp only [Option.bind_some,if_true,n5,Bool.not_true,Bool.false_eq_true,if_false]
    rw [bI (by omega)]
   by_cases c:(i:Int) >0
   ·have hlt:Op.bytesLess (d.ai[i - 1]'(by omega)).Name.toList d.ai[i].Name.toList=true:=by
     have:=List.pairwise_iff_getElem.1 h.fn (i - 1) i (by rw [List.length_map];omega) (by rw [List.length_map];omega) (by omega)
     simpa [Lt] using this
    rw [if_pos c,TK (by omega) (by omega),iO (show i - 1<d.ai.length by omega)]
    simp only [Option.bind_some,hlt,Bool.not_true,Bool.false_eq_true,if_false]
    exact tail
   ·rw [if_neg c]
    simp only [Option.bind_some,Bool.false_eq_true,if_false]
    exact tail
  ·unfold dO
   rw [if_neg (by omega)]
 unfold iJ
 rw [kC,kC,decide_eq_true h.w,decide_eq_true h.h]
 simp only [Option.bind_some,if_true]
 rw [if_neg (by omega),decide_eq_false (by omega)]
 simp only [Option.bind_some,Bool.false_eq_true,if_false]
 rw [L4]
 simp only [Option.bind_some]
 rw [L10]
 rfl
theorem aeC {α:Type} {l:List α} {i:Int} {y:α} (h:rd l i=some y):0≤i∧l[i.toNat]?=some y:=by
 unfold rd at h
 split at h
 ·exact ⟨by assumption,h⟩
 ·cases h
theorem Oe {pts q:List ae} {ring:List Int} (hl:ring.length=q.length) (hr:ring.length≤100) (hp:pts.length≤1000) (h:∀(j:Nat) (hj:j<ring.length),rd pts ring[j]=some (q[j]'(by omega))):gJ pts ring=some (q,true):=by
 have e:aP (iD pts ring) (0,[])=some (.inl q):=by
  have:=jF (f:=iD pts ring) (fun i:Nat=>((i:Int),q.take i)) ring.length (r:= .inl q) (fun i hi=>by
   have hx:=h i hi
   obtain ⟨x0,x1⟩:=aeC hx
   have x2:ring[i].toNat<pts.length:=by
    rcases Nat.lt_or_ge ring[i].toNat pts.length with h' | h'
    ·exact h'
    ·rw [List.getElem?_eq_none h'] at x1;cases x1
   unfold iD
   simp only
   rw [if_pos (by omega),iO hi,Option.bind_some,kC,aY (n:=(pts.length:Int) - 1) (by omega) (by omega),decide_eq_true ⟨x0,by omega⟩,Option.bind_some,if_pos rfl,hx,Option.bind_some,yS (by rw [List.length_take];simp;omega),Option.bind_some,bI (by omega)]
   rw [List.take_succ_eq_append_getElem (by omega)]) (by
   unfold iD
   simp only
   rw [if_neg (by omega),hl,List.take_length])
  simpa using this
 unfold gJ
 rw [e]
 rfl
theorem ah9 {x0 x1 y0 y1:Int} (hx:x0<x1) (hy:y0<y1):0<cr ⟨x0,y0⟩ ⟨x1,y0⟩ ⟨x1,y1⟩∧0<cr ⟨x1,y0⟩ ⟨x1,y1⟩ ⟨x0,y1⟩∧0<cr ⟨x1,y1⟩ ⟨x0,y1⟩ ⟨x0,y0⟩∧0<cr ⟨x0,y1⟩ ⟨x0,y0⟩ ⟨x1,y0⟩:=by
 have m:0< (x1 - x0) * (y1 - y0):=Int.mul_pos (by omega) (by omega)
 have a1:=Int.mul_comm y0 x0
 have a2:=Int.mul_comm y0 x1
 have a3:=Int.mul_comm y1 x0
 have a4:=Int.mul_comm y1 x1
 unfold cr
 simp only [Int.sub_mul,Int.mul_sub] at m ⊢
 refine ⟨?_,?_,?_,?_⟩<;>omega
theorem aeD {s:ByteArray} (h1:1≤s.size) (h2:s.size≤10) (h0:∃v,bt s 0=some v∧97≤v∧v≤122) (h3:∀i:Nat,i<s.size→∃v,bt s (i:Int)=some v∧((97≤v∧v≤122)∨(48≤v∧v≤57))):kE s=some true:=by
 obtain ⟨v,v1,v2,v3⟩:=h0
 have e:aP (jQ s) 0=some (.inl ()):=by
  refine jF (f:=jQ s) (fun i:Nat=>(i:Int)) s.size (fun i hi=>?_) ?_
  ·obtain ⟨v,v1,v2⟩:=h3 i hi
   unfold jQ
   rw [if_pos (by omega),v1]
   simp only [Option.bind_some]
   rcases v2 with v2 | v2
   ·rw [if_neg (by omega),if_neg (by omega)]
    simp only [Option.bind_some,Bool.false_eq_true,if_false]
    rw [bI (by omega)]
   ·rw [if_pos (by omega),if_neg (by omega)]
    simp only [Option.bind_some]
    rw [decide_eq_false (by omega)]
    simp only [Bool.false_eq_true,if_false]
    rw [bI (by omega)]
  ·unfold jQ
   rw [if_neg (by omega)]
 unfold kE
 rw [if_neg (by omega),if_neg (by omega),v1]
 simp only [Option.bind_some]
 rw [if_neg (by omega),decide_eq_false (by omega)]
 simp only [Option.bind_some,Bool.false_eq_true,if_false]
 rw [e]
 rfl
theorem aab {y x:Nat} (hy:y<3) (hx:x<3):kE (gnm y x)=some true∧(gnm y x).size=3∧kE (nmB (gnm y x))=some true∧(nmB (gnm y x)).size=4:=by
 have hy3:y=0∨y=1∨y=2:=by omega
 have hx3:x=0∨x=1∨x=2:=by omega
 have key:∀s:ByteArray,s.size≤4→1≤s.size→(∃v,bt s 0=some v∧97≤v∧v≤122)→(1<s.size→∃v,bt s 1=some v∧((97≤v∧v≤122)∨(48≤v∧v≤57)))→(2<s.size→∃v,bt s 2=some v∧((97≤v∧v≤122)∨(48≤v∧v≤57)))→(3<s.size→∃v,bt s 3=some v∧((97≤v∧v≤122)∨(48≤v∧v≤57)))→kE s=some true:=by
  intro s h1 h2 h3 h4 h5 h6
  refine aeD h2 (by omega) h3 fun i hi=>?_
  have:i=0∨i=1∨i=2∨i=3:=by omega
  rcases this with rfl | rfl | rfl | rfl
  ·obtain ⟨v,q1,q2,q3⟩:=h3
   exact ⟨v,q1,.inl ⟨q2,q3⟩⟩
  ·exact h4 hi
  ·exact h5 hi
  ·exact h6 hi
 rcases hy3 with rfl | rfl | rfl<;>rcases hx3 with rfl | rfl | rfl<;>
  exact ⟨key _ (by decide) (by decide) ⟨_,rfl,by decide,by decide⟩ (fun _=>⟨_,rfl,by decide⟩) (fun _=>⟨_,rfl,by decide⟩) (fun h=>absurd h (by decide)),rfl,
   key _ (by decide) (by decide) ⟨_,rfl,by decide,by decide⟩ (fun _=>⟨_,rfl,by decide⟩) (fun _=>⟨_,rfl,by decide⟩) (fun _=>⟨_,rfl,by decide⟩),rfl⟩
theorem aac {nx ny:Nat} (h1:1≤nx) (h3:nx≤3) (k1:1≤ny) (k3:ny≤3):(N2 ((List.range (ny*nx)).map fun i=>gnm (i / nx) (i % nx))).Pairwise Lt:=by
 have hx:nx=1∨nx=2∨nx=3:=by omega
 have hy:ny=1∨ny=2∨ny=3:=by omega
 unfold Lt
 rcases hx with rfl | rfl | rfl<;>rcases hy with rfl | rfl | rfl<;>decide+kernel
theorem Xa {nx ny i:Nat} {xs ys:List Int} (hi:i< (ny+1) * (nx+1)):rd ((List.range ((ny+1) * (nx+1))).map (gP nx xs ys)) (i:Int)=some (gP nx xs ys i):=by
 rw [iO (by simpa using hi),List.getElem_map,List.getElem_range]
theorem Xb {nx y x:Nat} {xs ys:List Int} (hx:x≤nx):gP nx xs ys (y* (nx+1)+x)=⟨xs.getD x 0,ys.getD y 0⟩:=by
 have e1:(y* (nx+1)+x) % (nx+1)=x:=by rw [Nat.mul_comm,Nat.mul_add_mod,Nat.mod_eq_of_lt (by omega)]
 have e2:(y* (nx+1)+x) / (nx+1)=y:=by rw [Nat.mul_comm,Nat.mul_add_div (by omega),Nat.div_eq_of_lt (by omega),Nat.add_zero]
 unfold gP
 rw [e1,e2]
theorem TM {nx ny:Nat} (hx:nx≤3) (hy:ny≤3):(ny+1) * (nx+1)≤16:=by
 have:=Nat.mul_le_mul (show ny+1≤4 by omega) (show nx+1≤4 by omega)
 omega
theorem acH {nx ny:Nat} {xs ys:List Int} (hx3:nx≤3) (hy3:ny≤3) (hX:Xs xs nx) (hY:Xs ys ny) {y x:Nat} (hy:y<ny) (hx:x<nx):
 Base ((List.range ((ny+1) * (nx+1))).map (gP nx xs ys)) (gF1 nx y x):=by
 obtain ⟨n1,n2,n3,n4⟩:=aab (y:=y) (x:=x) (by omega) (by omega)
 have hpl:=TM hx3 hy3
 have b0:=hX.bd x (by omega)
 have b1:=hX.bd (x+1) (by omega)
 have b2:=hY.bd y (by omega)
 have b3:=hY.bd (y+1) (by omega)
 have g1:=(hX.2.2 x hx).1
 have g2:=(hY.2.2 y hy).1
 have hm:(y+1) * (nx+1)≤ny* (nx+1):=Nat.mul_le_mul_right _ (by omega)
 have hm1:(ny+1) * (nx+1)=ny* (nx+1)+(nx+1):=Nat.succ_mul _ _
 have hm2:(y+1) * (nx+1)=y* (nx+1)+(nx+1):=Nat.succ_mul _ _
 have r0:rd ((List.range ((ny+1) * (nx+1))).map (gP nx xs ys)) (gk nx y x)=some ⟨xs.getD x 0,ys.getD y 0⟩:=by
  unfold gk
  rw [Xa (by omega),Xb (by omega)]
 have r1:rd ((List.range ((ny+1) * (nx+1))).map (gP nx xs ys)) (gk nx y x+1)=some ⟨xs.getD (x+1) 0,ys.getD y 0⟩:=by
  have e:gk nx y x+1=((y* (nx+1)+(x+1):Nat):Int):=by unfold gk;omega
  rw [e,Xa (by omega),Xb (by omega)]
 have r2:rd ((List.range ((ny+1) * (nx+1))).map (gP nx xs ys)) (gk nx y x+nx+2)=some ⟨xs.getD (x+1) 0,ys.getD (y+1) 0⟩:=by
  have e:gk nx y x+nx+2=(((y+1) * (nx+1)+(x+1):Nat):Int):=by unfold gk;rw [hm2];omega
  rw [e,Xa (by omega),Xb (by omega)]
 have r3:rd ((List.range ((ny+1) * (nx+1))).map (gP nx xs ys)) (gk nx y x+nx+1)=some ⟨xs.getD x 0,ys.getD (y+1) 0⟩:=by
  have e:gk nx y x+nx+1=(((y+1) * (nx+1)+x:Nat):Int):=by unfold gk;rw [hm2];omega
  rw [e,Xa (by omega),Xb (by omega)]
 obtain ⟨c1,c2,c3,c4⟩:=ah9 (x0:=xs.getD x 0) (x1:=xs.getD (x+1) 0) (y0:=ys.getD y 0) (y1:=ys.getD (y+1) 0) (by omega) (by omega)
 have p0:Pt ⟨xs.getD x 0,ys.getD y 0⟩:=⟨by show 0≤xs.getD x 0;omega,by show xs.getD x 0≤20000;omega,by show 0≤ys.getD y 0;omega,by show ys.getD y 0≤20000;omega⟩
 have p1:Pt ⟨xs.getD (x+1) 0,ys.getD y 0⟩:=⟨by show 0≤xs.getD (x+1) 0;omega,by show xs.getD (x+1) 0≤20000;omega,by show 0≤ys.getD y 0;omega,by show ys.getD y 0≤20000;omega⟩
 have p2:Pt ⟨xs.getD (x+1) 0,ys.getD (y+1) 0⟩:=⟨by show 0≤xs.getD (x+1) 0;omega,by show xs.getD (x+1) 0≤20000;omega,by show 0≤ys.getD (y+1) 0;omega,by show ys.getD (y+1) 0≤20000;omega⟩
 have p3:Pt ⟨xs.getD x 0,ys.getD (y+1) 0⟩:=⟨by show 0≤xs.getD x 0;omega,by show xs.getD x 0≤20000;omega,by show 0≤ys.getD (y+1) 0;omega,by show ys.getD (y+1) 0≤20000;omega⟩
 have hlen:((List.range ((ny+1) * (nx+1))).map (gP nx xs ys)).length≤1000:=by rw [List.length_map,List.length_range];omega
 refine ⟨_,_,_,_,rfl,⟨n1,by show (gnm y x).size≤10;omega,by show 4≤4;omega,_,Oe (q:=[_,_,_,_]) rfl (by show 4≤100;omega) hlen ?_,agx p0 p1 p2 p3 c1 c2 c3 c4⟩,
  ⟨n1,by show (gnm y x).size≤10;omega,by show 3≤4;omega,_,Oe (q:=[_,_,_]) rfl (by show 3≤100;omega) hlen ?_,ads p0 p1 p2 c1⟩,⟨n3,by show (nmB (gnm y x)).size≤10;omega,by show 3≤4;omega,_,Oe (q:=[_,_,_]) rfl (by show 3≤100;omega) hlen ?_,ads p0 p2 p3 (by rw [←EF];exact c3)⟩⟩
 ·intro j hj
  have hj4:j<4:=hj
  have:j=0∨j=1∨j=2∨j=3:=by omega
  rcases this with rfl | rfl | rfl | rfl
  ·exact r0
  ·exact r1
  ·exact r2
  ·exact r3
 ·intro j hj
  have hj4:j<3:=hj
  have:j=0∨j=1∨j=2:=by omega
  rcases this with rfl | rfl | rfl
  ·exact r0
  ·exact r1
  ·exact r2
 ·intro j hj
  have hj4:j<3:=hj
  have:j=0∨j=1∨j=2:=by omega
  rcases this with rfl | rfl | rfl
  ·exact r0
  ·exact r2
  ·exact r3
theorem Xs.mono {l:List Int} {k:Nat} (h:Xs l k):∀{i j:Nat},i<j→j≤k→l.getD i 0<l.getD j 0:=by
 intro i j
 induction j with
 | zero=>intro h;omega
 | succ j ih=>
  intro hij hj
  have g:=(h.2.2 j (by omega)).1
  by_cases e:i=j
  ·subst e;omega
  ·have:=ih (by omega) (by omega)
   omega
theorem Xs.inj {l:List Int} {k:Nat} (h:Xs l k) {i j:Nat} (hi:i≤k) (hj:j≤k) (e:l.getD i 0=l.getD j 0):i=j:=by
 rcases Nat.lt_trichotomy i j with h1 | h1 | h1
 ·have:=h.mono h1 hj;omega
 ·exact h1
 ·have:=h.mono h1 hi;omega
def Cut (pts:List ae) (L:List ByteArray) (n:Nat) (out:List aj):Prop:=out.length≤2*n∧n≤out.length∧List.Sublist (out.map (·.Name)) (N2 L)∧∀f∈out,FOK pts f
theorem TN {nx ny:Nat} {xs ys:List Int} (hx1:1≤nx) (hx3:nx≤3) (hy1:1≤ny) (hy3:ny≤3) (hX:Xs xs nx) (hY:Xs ys ny) {out:List aj}
 (ho:Cut ((List.range ((ny+1) * (nx+1))).map (gP nx xs ys)) ((List.range (ny*nx)).map fun i=>gnm (i / nx) (i % nx)) (ny*nx) out):
 DOK ⟨xs.getD nx 0,ys.getD ny 0,(List.range ((ny+1) * (nx+1))).map (gP nx xs ys),out⟩:=by
 obtain ⟨o1,o2,o3,o4⟩:=ho
 have hpl:=TM hx3 hy3
 have hfl:ny*nx≤9:=by have:=Nat.mul_le_mul hy3 hx3;omega
 have ak1:1≤ny*nx:=Nat.mul_le_mul hy1 hx1
 have hpl2:4≤(ny+1) * (nx+1):=Nat.mul_le_mul (show 2≤ny+1 by omega) (show 2≤nx+1 by omega)
 have b0:=hX.bd nx (Nat.le_refl _)
 have b1:=hY.bd ny (Nat.le_refl _)
 have c0:=hX.mono (i:=0) (j:=1) (by omega) (by omega)
 have w0:xs.getD 0 0+20≤xs.getD 1 0:=(hX.2.2 0 (by omega)).1
 have w1:ys.getD 0 0+20≤ys.getD 1 0:=(hY.2.2 0 (by omega)).1
 have z0:=hX.2.1
 have z1:=hY.2.1
 have le1:∀{l:List Int} {k:Nat},Xs l k→∀{i:Nat},i≤k→l.getD i 0≤l.getD k 0:=by
  intro l k h i hi
  by_cases e:i=k
  ·subst e;omega
  ·have:=h.mono (show i<k by omega) (Nat.le_refl _)
   omega
 have l1:=le1 hX hx1
 have l2:=le1 hY hy1
 refine {w:=⟨by show 10≤xs.getD nx 0;omega,by show xs.getD nx 0≤20000;omega⟩,h:=⟨by show 10≤ys.getD ny 0;omega,by show ys.getD ny 0≤20000;omega⟩,pl:=?_,pl0:=?_,pin:=?_,pdf:=?_,fl:=by show out.length≤24;omega,fl0:=by show 1≤out.length;omega,fn:=(aac hx1 hx3 hy1 hy3).sublist o3,fok:=o4}
 ·show ((List.range ((ny+1) * (nx+1))).map (gP nx xs ys)).length≤48
  rw [List.length_map,List.length_range];omega
 ·show 2≤((List.range ((ny+1) * (nx+1))).map (gP nx xs ys)).length
  rw [List.length_map,List.length_range];omega
 ·intro p hp
  have hp:p∈(List.range ((ny+1) * (nx+1))).map (gP nx xs ys):=hp
  obtain ⟨i,hi,rfl⟩:=List.mem_map.1 hp
  have hi:=List.mem_range.1 hi
  have h1:i % (nx+1)≤nx:=by have:=Nat.mod_lt i (show 0<nx+1 by omega);omega
  have h2:i / (nx+1)≤ny:=by
   have:=Nat.div_lt_of_lt_mul (show i< (nx+1) * (ny+1) by rw [Nat.mul_comm];exact hi)
   omega
  exact ⟨(hX.bd _ h1).1,le1 hX h1,(hY.bd _ h2).1,le1 hY h2⟩
 ·intro i j hi hj
  have hi:i< ((List.range ((ny+1) * (nx+1))).map (gP nx xs ys)).length:=hi
  rw [List.length_map,List.length_range] at hi
  show ¬(((List.range ((ny+1) * (nx+1))).map (gP nx xs ys))[i].X=((List.range ((ny+1) * (nx+1))).map (gP nx xs ys))[j].X∧((List.range ((ny+1) * (nx+1))).map (gP nx xs ys))[i].Y=((List.range ((ny+1) * (nx+1))).map (gP nx xs ys))[j].Y)
  rw [List.getElem_map,List.getElem_map,List.getElem_range,List.getElem_range]
  rintro ⟨e1,e2⟩
  have h1:∀k:Nat,k % (nx+1)≤nx:=fun k=>by have:=Nat.mod_lt k (show 0<nx+1 by omega);omega
  have h2:∀k:Nat,k< (ny+1) * (nx+1)→k / (nx+1)≤ny:=fun k hk=>by
   have:=Nat.div_lt_of_lt_mul (show k< (nx+1) * (ny+1) by rw [Nat.mul_comm];exact hk)
   omega
  have f1:=hX.inj (h1 i) (h1 j) e1
  have f2:=hY.inj (h2 i hi) (h2 j (by omega)) e2
  have d1:=Nat.div_add_mod i (nx+1)
  have d2:=Nat.div_add_mod j (nx+1)
  rw [f1,f2] at d1
  omega
theorem aeE {c:List Int} (hc:∀x∈c,0≤x∧x≤255) {n:Int} (hn:n≤800000000) {d:aB} (hl:d.ai.length≤9) (hB:∀f∈d.ai,Base d.aI f):
 ∀(m k:Nat) (t:aC) (out:List aj),k+m=d.ai.length→Cut d.aI ((d.ai.take k).map (·.Name)) k out→Sr c (n+2*k) t→
  ∃r,aP (nS d) ((k:Int),t.code,t.at_,t.seed,out)=some r∧Cut d.aI (d.ai.map (·.Name)) d.ai.length r.2.2.2∧Sr c (n+2*d.ai.length) ⟨r.1,r.2.1,r.2.2.1⟩:=by
 intro m
 induction m with
 | zero=>
  intro k t out hk ho ht
  have hk:k=d.ai.length:=by omega
  subst hk
  rw [List.take_length] at ho
  refine ⟨(t.code,t.at_,t.seed,out),aV ?_,ho,ht⟩
  unfold nS
  simp only
  rw [if_neg (by omega)]
 | succ m ih=>
  intro k t out hk ho ht
  have hk':k<d.ai.length:=by omega
  obtain ⟨a,b,cc,dd,hr,f1,f2,f3⟩:=hB _ (List.getElem_mem hk')
  obtain ⟨v,t',e,ht'⟩:=N8 hc (by omega) ht 3
  have e':iW ⟨t.code,t.at_,t.seed⟩ 3=some (v,t'):=e
  obtain ⟨o1,o2,o3,o4⟩:=ho
  have hsz:=f1.2.1
  have hN:N2 ((d.ai.take (k+1)).map (·.Name))=N2 ((d.ai.take k).map (·.Name))++[d.ai[k].Name,nmB d.ai[k].Name]:=by
   unfold N2
   rw [List.take_succ_eq_append_getElem hk',List.map_append,List.flatMap_append]
   rfl
  have S1:∃out',nS d ((k:Int),t.code,t.at_,t.seed,out)=some (.inl (((k+1:Nat):Int),t'.code,t'.at_,t'.seed,out'))∧Cut d.aI ((d.ai.take (k+1)).map (·.Name)) (k+1) out':=by
   unfold nS tq
   simp only
   rw [if_pos (by omega),iO hk',Option.bind_some,hr,if_pos (by rfl),e']
   simp only [Option.bind_some]
   cases v with
   | true=>
    rw [if_pos rfl]
    have q0:rd [a,b,cc,dd] 0=some a:=rfl
    have q1:rd [a,b,cc,dd] 1=some b:=rfl
    have q2:rd [a,b,cc,dd] 2=some cc:=rfl
    have q3:rd [a,b,cc,dd] 3=some dd:=rfl
    simp only [q0,q1,q2,q3,Option.bind_some]
    rw [yS (by simp;omega),Option.bind_some,Gg (by show _+1≤_;omega),Option.bind_some,yS (by simp;omega),Option.bind_some,bI (by omega)]
    refine ⟨_,rfl,by simp;omega,by simp;omega,?_,?_⟩
    ·rw [hN,List.map_append,List.map_append,List.append_assoc]
     exact o3.append (List.Sublist.refl _)
    ·intro f hf
     rcases List.mem_append.1 hf with hf | hf
     ·rcases List.mem_append.1 hf with hf | hf
      ·exact o4 f hf
      ·rw [List.mem_singleton.1 hf];exact f2
     ·rw [List.mem_singleton.1 hf];exact f3
   | false=>
    rw [if_neg (by decide),yS (by simp;omega),Option.bind_some,bI (by omega)]
    refine ⟨_,rfl,by simp;omega,by simp;omega,?_,?_⟩
    ·rw [hN,List.map_append]
     exact o3.append (by simp)
    ·intro f hf
     rcases List.mem_append.1 hf with hf | hf
     ·exact o4 f hf
     ·rw [List.mem_singleton.1 hf];exact f1
  obtain ⟨out',s1,s2⟩:=S1
  rw [aT s1]
  exact ih (k+1) t' out' (by omega) s2 (ht'.mono (by omega))
theorem TP {c:List Int} (hc:∀x∈c,0≤x∧x≤255) {n:Int} (hn:n≤700000000) {s:aC} (h:Sr c n s):∃d s',uh s=some (d,s')∧DOK d∧Sr c (n+50) s':=by
 obtain ⟨nx,ny,xs,ys,s1,g1,g2,g3,g4,g5,g6,g7,g8⟩:=acG hc (by omega) h
 obtain ⟨v,s2,e2,h2⟩:=N8 hc (by omega) g7 2
 have hB:∀f∈(List.range (ny*nx)).map (gF nx),Base ((List.range ((ny+1) * (nx+1))).map (gP nx xs ys)) f:=by
  intro f hf
  obtain ⟨i,hi,rfl⟩:=List.mem_map.1 hf
  have hi:=List.mem_range.1 hi
  exact acH g2 g4 g5 g6 (Nat.div_lt_of_lt_mul (by rw [Nat.mul_comm];exact hi)) (Nat.mod_lt _ (by omega))
 have hnm:((List.range (ny*nx)).map (gF nx)).map (·.Name)=(List.range (ny*nx)).map fun i=>gnm (i / nx) (i % nx):=by
  rw [List.map_map];rfl
 have hfl:ny*nx≤9:=by have:=Nat.mul_le_mul g4 g2;omega
 unfold uh qY
 rw [g8,Option.bind_some]
 simp only
 rw [e2,Option.bind_some]
 cases v with
 | false=>
  simp only [Bool.false_eq_true,if_false]
  refine ⟨_,_,rfl,TN g1 g2 g3 g4 g5 g6 ⟨by rw [List.length_map,List.length_range];omega,by rw [List.length_map,List.length_range];omega,?_,fun f hf=>?_⟩,h2.mono (by omega)⟩
  ·rw [hnm]
   unfold N2
   generalize (List.range (ny*nx)).map (fun i=>gnm (i / nx) (i % nx))=L
   induction L with
   | nil=>exact List.Sublist.slnil
   | cons a L ih=>
    rw [List.flatMap_cons]
    exact List.Sublist.cons_cons _ (List.Sublist.cons _ ih)
  ·obtain ⟨_,_,_,_,_,f1,_⟩:=hB f hf
   exact f1
 | true=>
  simp only [if_true]
  have hd:((⟨xs.getD nx 0,ys.getD ny 0,(List.range ((ny+1) * (nx+1))).map (gP nx xs ys),(List.range (ny*nx)).map (gF nx)⟩:aB)).ai.length≤9:=by
   show ((List.range (ny*nx)).map (gF nx)).length≤9
   rw [List.length_map,List.length_range];exact hfl
  obtain ⟨⟨r1,r2,r3,out⟩,q1,q2,q3⟩:=aeE hc (n:=n+22) (by omega) hd hB _ 0 s2 [] (Nat.zero_add _) ⟨by simp,by simp,by simp [N2],by simp⟩ (h2.mono (by omega))
  have q1:aP (nS ⟨xs.getD nx 0,ys.getD ny 0,(List.range ((ny+1) * (nx+1))).map (gP nx xs ys),(List.range (ny*nx)).map (gF nx)⟩) (0,s2.code,s2.at_,s2.seed,[])=_:=q1
  unfold BN
  rw [q1]
  simp only [Option.bind_some]
  simp only [List.length_map,List.length_range] at q2 q3
  rw [hnm] at q2
  exact ⟨_,_,rfl,TN g1 g2 g3 g4 g5 g6 q2,q3.mono (by omega)⟩
def SB (d:aB):Prop:=d.aI.length≤100∧d.ai.length≤100∧∀f∈d.ai,f.Name.size≤20∧f.Ring.length≤10
theorem SB.bd {d:aB} (h:SB d):uA d:=by
 obtain ⟨h1,h2,h3⟩:=h
 refine ⟨trivial,trivial,⟨by omega,fun a _=>⟨trivial,trivial⟩⟩,by omega,fun a ha=>?_⟩
 obtain ⟨k1,k2⟩:=h3 a ha
 exact ⟨by omega,by omega,fun _ _=>trivial⟩
theorem DOK.sb {d:aB} (h:DOK d):SB d:=by
 have h1:=h.pl
 have h2:=h.fl
 refine ⟨by omega,by omega,fun f hf=>?_⟩
 obtain ⟨_,k1,k2,_⟩:=h.fok f hf
 exact ⟨by omega,by omega⟩
theorem agz {α:Type} {l:List α} (h:1≤l.length):slc l 1 (l.length:Int)=some ((l.take ((l.length:Int).toNat)).drop ((1:Int).toNat)):=by
 unfold slc
 rw [if_pos ⟨by omega,by omega,by omega⟩]
theorem acI {c:List Int} (hc:∀x∈c,0≤x∧x≤255) {n:Int} (hn:n≤999999999) {s:aC} (h:Sr c n s) (l:List ByteArray) (hl:1≤l.length):∃v s',pY s l=some (v,s')∧v∈l∧Sr c (n+2) s':=by
 obtain ⟨v,s',e,v1,v2,h'⟩:=lY hc hn h (l.length:Int)
 have v3:=v2 (by omega)
 obtain ⟨i,hi⟩:∃i:Nat,v=(i:Int):=⟨v.toNat,by omega⟩
 subst hi
 have hlt:i<l.length:=by omega
 unfold pY
 rw [e]
 simp only [Option.bind_some,iO hlt]
 exact ⟨_,_,rfl,List.getElem_mem hlt,h'⟩
theorem PO {α:Type} {l:List α} {v:Int} (h0:0≤v) (h1:v<l.length):∃y,rd l v=some y∧y∈l:=by
 obtain ⟨i,rfl⟩:∃i:Nat,v=(i:Int):=⟨v.toNat,by omega⟩
 exact ⟨_,iO (by omega),List.getElem_mem (by omega)⟩
theorem acJ {c:List Int} (hc:∀x∈c,0≤x∧x≤255) {n:Int} (hn:n≤600000000) {s:aC} (h:Sr c n s):∃d s',wu s=some (d,s')∧SB d∧Sr c (n+100) s':=by
 obtain ⟨v1,s1,e1,_,_,h1⟩:=lY hc (by omega) h 50
 obtain ⟨v2,s2,e2,_,_,h2⟩:=lY hc (by omega) h1 50
 obtain ⟨v3,s3,e3,_,_,h3⟩:=lY hc (by omega) h2 50
 obtain ⟨v4,s4,e4,h4⟩:=N8 hc (by omega) h3 3
 obtain ⟨v5,s5,e5,h5⟩:=N8 hc (by omega) h4 4
 have k10:∀(a b x:Int×aC) (F:List aj),F.length≤100→(∀f∈F,f.Name.size≤20∧f.Ring.length≤10)→∃d s',pR a b (v5,s5) x F=some (d,s')∧SB d∧Sr c (n+100) s':=by
  intro a b x F hF1 hF2
  exact ⟨_,_,rfl,⟨by show 8≤100;omega,hF1,hF2⟩,h5.mono (by omega)⟩
 have k8:∀(a b x:Int×aC) (F:List aj),F.length≤100→(∀f∈F,f.Name.size≤20∧f.Ring.length≤10)→∃d s',oG a b (v4,s4) x F=some (d,s')∧SB d∧Sr c (n+100) s':=by
  intro a b x F hF1 hF2
  unfold oG
  rw [e5,Option.bind_some]
  cases v5 with
  | true=>
   simp only [if_true]
   exact k10 _ _ _ _ (by show 1≤100;omega) (fun f hf=>by rw [List.mem_singleton.1 hf];exact ⟨by show 1≤20;omega,by show 4≤10;omega⟩)
  | false=>
   simp only [Bool.false_eq_true,if_false]
   exact k10 _ _ _ _ hF1 hF2
 have five:∀f∈([(⟨(⟨#[97]⟩:ByteArray),([0,1,5,4]:List Int)⟩:aj),(⟨(⟨#[98]⟩:ByteArray),([1,2,6,5]:List Int)⟩:aj),(⟨(⟨#[99]⟩:ByteArray),([2,3,7,6]:List Int)⟩:aj),(⟨(⟨#[100]⟩:ByteArray),([3,0,4,7]:List Int)⟩:aj),(⟨(⟨#[101]⟩:ByteArray),([4,5,6,7]:List Int)⟩:aj)]:List aj),f.Name.size≤20∧f.Ring.length≤10:=by
  intro f hf
  simp only [List.mem_cons,List.not_mem_nil,or_false] at hf
  rcases hf with rfl | rfl | rfl | rfl | rfl<;>exact ⟨by show 1≤20;omega,by show 4≤10;omega⟩
 unfold wu
 rw [e1,Option.bind_some,e2,Option.bind_some,e3,Option.bind_some,e4,Option.bind_some]
 cases v4 with
 | true=>
  simp only [if_true]
  rw [agz (by show 1≤5;omega),Option.bind_some]
  exact k8 _ _ _ _ (by show 4≤100;omega) (fun f hf=>five f (List.mem_of_mem_take (List.mem_of_mem_drop hf)))
 | false=>
  simp only [Bool.false_eq_true,if_false]
  exact k8 _ _ _ _ (by show 5≤100;omega) five
theorem X5 {x91:Int×aC} (h0:0≤x91.1) (h3:x91.1<3):
 ∀(m k:Nat) (P:List ae) (F:List aj),(k:Int)+m=23+x91.1→P.length≤2*k→F.length≤k→(∀f∈F,f.Name.size≤20∧f.Ring.length≤10)→
  ∃r,aP (kR x91) ((k:Int),P,F)=some r∧r.1.length≤50∧r.2.length≤25∧(∀f∈r.2,f.Name.size≤20∧f.Ring.length≤10):=by
 intro m
 induction m with
 | zero=>
  intro k P F hk hP hF hf
  refine ⟨(P,F),aV ?_,by show P.length≤50;omega,by show F.length≤25;omega,hf⟩
  unfold kR
  simp only
  rw [aY (n:=23+x91.1) (by omega) (by omega),if_neg (by omega)]
 | succ m ih=>
  intro k P F hk hP hF hf
  have aaE:∀z:Int,cat (⟨#[102]⟩:ByteArray) (strOf [z])=some ((⟨#[102]⟩:ByteArray)++strOf [z]):=fun z=>Gg (by
   show 1+1≤_
   omega)
  have S1:∃P' F',kR x91 ((k:Int),P,F)=some (.inl (((k+1:Nat):Int),P',F'))∧P'.length≤2* (k+1)∧F'.length≤k+1∧(∀f∈F',f.Name.size≤20∧f.Ring.length≤10):=by
   unfold kR qg
   simp only
   rw [aY (n:=23+x91.1) (by omega) (by omega),if_pos (by omega),yS (by simp;omega),Option.bind_some]
   by_cases c0:(k:Int) >0
   ·rw [if_pos c0,aaE,Option.bind_some,yS (by simp;omega),Option.bind_some,bI (by omega)]
    refine ⟨_,_,rfl,by simp;omega,by simp;omega,fun f hf'=>?_⟩
    rcases List.mem_append.1 hf' with hf' | hf'
    ·exact hf f hf'
    ·rw [List.mem_singleton.1 hf']
     exact ⟨by show (_++_:ByteArray).size≤20;rw [ByteArray.size_append];show 1+1≤20;omega,by show 4≤10;omega⟩
   ·rw [if_neg c0,bI (by omega)]
    exact ⟨_,_,rfl,by simp;omega,by omega,hf⟩
  obtain ⟨P',F',s1,s2,s3,s4⟩:=S1
  rw [aT s1]
  exact ih (k+1) P' F' (by omega) s2 s3 s4
theorem acK {c:List Int} (hc:∀x∈c,0≤x∧x≤255) {n:Int} (hn:n≤600000000) {s:aC} (h:Sr c n s):∃d s',wC s=some (d,s')∧SB d∧Sr c (n+100) s':=by
 obtain ⟨d,s1,e1,hd,h1⟩:=TP hc (by omega) h
 obtain ⟨v,s2,e2,v0,v1,h2⟩:=lY hc (by omega) h1 16
 obtain ⟨b1,b2,b3⟩:=hd.sb
 have p0:=hd.pl0
 have f0:=hd.fl0
 have pl:=hd.pl
 have fl:=hd.fl
 have k29:∀(t:aC) (w h:Int) (P:List ae) (F:List aj),Sr c (n+100) t→P.length≤100→F.length≤100→(∀f∈F,f.Name.size≤20∧f.Ring.length≤10)→∃d s',dX t.code t.at_ t.seed w h P F=some (d,s')∧SB d∧Sr c (n+100) s':=
  fun t w h P F ht hP hF hf=>⟨_,_,rfl,⟨hP,hF,hf⟩,ht⟩
 have hset:∀(i:Nat) (x:aj),x.Name.size≤20→x.Ring.length≤10→∀f∈d.ai.set i x,f.Name.size≤20∧f.Ring.length≤10:=by
  intro i x h1 h2 f hf
  rcases List.mem_or_eq_of_mem_set hf with hf | rfl
  ·exact b3 f hf
  ·exact ⟨h1,h2⟩
 unfold wC
 rw [e1,Option.bind_some]
 simp only
 rw [e2,Option.bind_some]
 simp only
 by_cases c0:v=0
 ·rw [if_pos c0,agz f0,Option.bind_some]
  exact k29 _ _ _ _ _ (h2.mono (by omega)) b1 (by simp;omega) (fun f hf=>b3 f (List.mem_of_mem_take (List.mem_of_mem_drop hf)))
 rw [if_neg c0]
 by_cases c1:v=1
 ·rw [if_pos c1,yS (by simp;omega),Option.bind_some]
  exact k29 _ _ _ _ _ (h2.mono (by omega)) (by simp;omega) b2 b3
 rw [if_neg c1]
 by_cases c2:v=2
 ·rw [if_pos c2]
  obtain ⟨a,s3,e3,_,h3⟩:=N9 hc (by omega) h2 [(w64 (d.Width+5)),9,10,20000,20001] (by simp)
  rw [e3,Option.bind_some]
  exact k29 _ _ _ _ _ (h3.mono (by omega)) b1 b2 b3
 rw [if_neg c2]
 by_cases c3:v=3
 ·rw [if_pos c3]
  obtain ⟨a,s3,e3,a0,a1,h3⟩:=lY hc (by omega) h2 (d.ai.length:Int)
  obtain ⟨y,y1,y2⟩:=PO (l:=d.ai) a0 (a1 (by omega))
  rw [e3,Option.bind_some]
  simp only
  rw [y1,Option.bind_some]
  exact k29 _ _ _ _ _ (h3.mono (by omega)) b1 (by simp;omega) (hset _ _ (b3 y y2).1 (by show 3≤10;omega))
 rw [if_neg c3]
 by_cases c4:v=4
 ·rw [if_pos c4]
  obtain ⟨a,s3,e3,a0,a1,h3⟩:=lY hc (by omega) h2 (d.ai.length:Int)
  obtain ⟨y,y1,y2⟩:=PO (l:=d.ai) a0 (a1 (by omega))
  have hnm:∃nm s4,qf s3=some (nm,s4)∧nm.size≤20∧Sr c (n+90) s4:=by
   unfold qf
   obtain ⟨nm,s4,e4,hm,h4⟩:=acI hc (by omega) h3 ([(⟨#[97]⟩:ByteArray),(⟨#[98]⟩:ByteArray),(⟨#[99]⟩:ByteArray),(⟨#[111,97,107]⟩:ByteArray),(⟨#[115,116,97,114,55]⟩:ByteArray),(⟨#[114,111,115,101]⟩:ByteArray),(⟨#[120,57]⟩:ByteArray),(⟨#[97,98,99,100,101,102,103,104,105,106]⟩:ByteArray),(⟨#[97,98,99,100,101,102,103,104,105,106,107]⟩:ByteArray),(⟨#[65]⟩:ByteArray),(⟨#[]⟩:ByteArray),(⟨#[49,97]⟩:ByteArray),(⟨#[97,45,98]⟩:ByteArray)]:List ByteArray) (by simp)
   rw [e4,Option.bind_some]
   have hs:nm.size≤20:=by
    clear e4
    simp only [List.mem_cons,List.not_mem_nil,or_false] at hm
    rcases hm with rfl | rfl | rfl | rfl | rfl | rfl | rfl | rfl | rfl | rfl | rfl | rfl | rfl<;>decide
   exact ⟨_,_,rfl,hs,h4.mono (by omega)⟩
  obtain ⟨nm,s4,e4,n1,h4⟩:=hnm
  rw [e3,Option.bind_some]
  simp only
  rw [e4,Option.bind_some]
  simp only
  rw [y1,Option.bind_some]
  exact k29 _ _ _ _ _ (h4.mono (by omega)) b1 (by simp;omega) (hset _ _ n1 (b3 y y2).2)
 rw [if_neg c4]
 by_cases c5:v=5
 ·rw [if_pos c5]
  obtain ⟨a,s3,e3,a0,a1,h3⟩:=lY hc (by omega) h2 (d.ai.length:Int)
  obtain ⟨y,y1,y2⟩:=PO (l:=d.ai) a0 (a1 (by omega))
  obtain ⟨z,s4,e4,_,h4⟩:=N9 hc (by omega) h3 [1,(-1),(d.aI.length:Int)] (by simp)
  rw [e3,Option.bind_some]
  simp only
  rw [e4,Option.bind_some,y1,Option.bind_some]
  exact k29 _ _ _ _ _ (h4.mono (by omega)) b1 (by simp;omega) (hset _ _ (b3 y y2).1 (by show 2≤10;omega))
 rw [if_neg c5]
 by_cases c6:v=6
 ·rw [if_pos c6]
  obtain ⟨y,y1,_⟩:=PO (l:=d.aI) (v:=0) (by omega) (by omega)
  obtain ⟨z,z1,_⟩:=PO (l:=d.aI) (v:=1) (by omega) (by omega)
  rw [y1,Option.bind_some,z1,Option.bind_some]
  exact k29 _ _ _ _ _ (h2.mono (by omega)) (by simp;omega) b2 b3
 rw [if_neg c6]
 by_cases c7:v=7
 ·rw [if_pos c7]
  obtain ⟨a,s3,e3,a0,a1,h3⟩:=lY hc (by omega) h2 3
  obtain ⟨⟨P,F⟩,q1,q2,q3,q4⟩:=X5 (x91:=(a,s3)) a0 (a1 (by omega)) (23+a).toNat 0 [] [] (by show ((0:Nat):Int)+_=23+a;omega) (by simp) (by simp) (by simp)
  have q1:aP (kR (a,s3)) (0,[],[])=_:=q1
  rw [e3,Option.bind_some,q1,Option.bind_some]
  exact k29 _ _ _ _ _ (h3.mono (by omega)) (by have q2:P.length≤50:=q2;omega) (by have q3:F.length≤25:=q3;omega) q4
 rw [if_neg c7]
 by_cases c8:v=8
 ·rw [if_pos c8]
  obtain ⟨a,s3,e3,a0,a1,h3⟩:=lY hc (by omega) h2 (d.aI.length:Int)
  obtain ⟨y,y1,y2⟩:=PO (l:=d.aI) a0 (a1 (by omega))
  obtain ⟨z,s4,e4,_,_,h4⟩:=lY hc (by omega) h3 30
  rw [e3,Option.bind_some]
  simp only
  rw [y1,Option.bind_some,e4,Option.bind_some,Option.bind_some]
  exact k29 _ _ _ _ _ (h4.mono (by omega)) (by simp;omega) b2 b3
 rw [if_neg c8]
 exact k29 _ _ _ _ _ (h2.mono (by omega)) b1 b2 b3
theorem aad {c:List Int} (hc:∀x∈c,0≤x∧x≤255):∃d,wK c=some d∧iJ d=some true∧uA d:=by
 obtain ⟨s0,e0,h0⟩:=W9 c
 obtain ⟨v,s1,e1,h1⟩:=N8 hc (by omega) h0 2
 have hd:∃d s',wE s0=some (d,s')∧SB d∧Sr c 200 s':=by
  unfold wE
  rw [e1,Option.bind_some]
  cases v with
  | true=>
   obtain ⟨d,s2,e2,d2,h2⟩:=acJ hc (by omega) h1
   simp only [if_true]
   rw [e2]
   exact ⟨d,s2,rfl,d2,h2.mono (by omega)⟩
  | false=>
   obtain ⟨d,s2,e2,d2,h2⟩:=acK hc (by omega) h1
   simp only [Bool.false_eq_true,if_false]
   rw [e2]
   exact ⟨d,s2,rfl,d2,h2.mono (by omega)⟩
 obtain ⟨d,s2,e2,d2,h2⟩:=hd
 obtain ⟨w,w1,w2⟩:=Rq d d2.bd
 unfold wK
 rw [e0,Option.bind_some,e2,Option.bind_some]
 simp only
 rw [w1,Option.bind_some]
 cases w with
 | true=>exact ⟨d,by simp,w2,d2.bd⟩
 | false=>
  obtain ⟨d',s3,e3,d3,_⟩:=TP hc (by omega) h2
  rw [if_neg (by simp),e3]
  exact ⟨d',rfl,X4 d3,d3.sb.bd⟩
theorem TQ {α:Type} {f:Int→Option (Int ⊕ (Unit ⊕ Bool))} (l:List α) (V:α→Bool) (hl:l.length≤1048576)
 (h1:∀(i:Nat) (hi:i<l.length),f (i:Int)=if V l[i]=true then some (.inl (w64 ((i:Int)+1))) else some (.inr (.inr false))) (h2:f (l.length:Int)=some (.inr (.inl ()))):
 aP f 0=some (if l.all V=true then .inl () else .inr false):=by
 rcases uT (ρ:=Bool) l (fun x=>!V x) (fun _=>false) (by omega) (fun i hi=>by rw [h1 i hi];cases V l[i]<;>rfl) h2 with ⟨a,b⟩ | ⟨i,hi,a,_,b⟩
 ·rw [b,if_pos (List.all_eq_true.2 fun x hx=>by simpa using a x hx)]
 ·have:¬l.all V=true:=fun h=>by
   have e:=List.all_eq_true.1 h _ (List.getElem_mem hi)
   rw [e] at a
   cases a
  rw [b,if_neg this]
theorem X6 {α:Type} {f:Int→Option (Int ⊕ (Unit ⊕ Int))} (l:List α) (V:α→Bool) (hl:l.length≤1048576)
 (h1:∀(i:Nat) (hi:i<l.length),f (i:Int)=if (!V l[i])=true then some (.inr (.inr (i:Int))) else some (.inl (w64 ((i:Int)+1)))) (h2:f (l.length:Int)=some (.inr (.inl ()))):
 (l.all V=true∧aP f 0=some (.inl ()))∨(l.all V=false∧∃k:Nat,aP f 0=some (.inr (k:Int))):=by
 rcases uT l (fun x=>!V x) (fun k=>(k:Int)) (by omega) h1 h2 with ⟨a,b⟩ | ⟨i,hi,a,_,b⟩
 ·exact .inl ⟨List.all_eq_true.2 fun x hx=>by simpa using a x hx,b⟩
 ·refine .inr ⟨?_,i,b⟩
  rw [List.all_eq_false]
  exact ⟨_,List.getElem_mem hi,by simpa using a⟩
def nms:List ByteArray:=[⟨#[97,115,104]⟩,⟨#[98,101,101,99,104]⟩,⟨#[98,105,114,99,104]⟩,⟨#[99,104,101,114,114,121]⟩,⟨#[101,98,111,110,121]⟩,⟨#[104,111,108,108,121]⟩,⟨#[109,97,112,108,101]⟩,⟨#[111,97,107]⟩,⟨#[114,111,115,101,119,111,111,100]⟩,⟨#[119,97,108,110,117,116]⟩]
theorem bn {a b:Array UInt8} (h:a.toList≠b.toList):¬(⟨a⟩:ByteArray)=⟨b⟩:=fun e=>h (by injection e with e;rw [e])
theorem acL (s:ByteArray):(uu s=some (-1)∧dZ s=some (0,false))∨
 ∃(k:Nat) (b:Int) (tb:List (List Int)) (row:List Int),uu s=some (k:Int)∧mY=some tb∧rd tb (k:Int)=some row∧rd row 0=some b∧0≤b∧b≤100∧dZ s=some (b,true):=by
 have hN:rQ=some nms:=rfl
 unfold uu
 rw [hN,Option.bind_some]
 rcases uT (f:=rq s nms) nms (fun x=>decide (x=s)) (fun k=>(k:Int)) (by decide) (fun i hi=>by
  unfold rq
  rw [if_pos (by omega),iO hi,Option.bind_some]
  by_cases c:nms[i]=s
  ·rw [if_pos c,if_pos (decide_eq_true c)]
  ·rw [if_neg c,if_neg (by simpa using c)]) (by unfold rq;rw [if_neg (by omega)]) with ⟨a,b⟩ | ⟨k,hk,a,_,b⟩
 ·left
  rw [b]
  refine ⟨rfl,?_⟩
  have hn:∀x∈nms,¬s=x:=fun x hx e=>by
   have:=a x hx
   rw [e] at this
   simp at this
  simp only [nms,List.mem_cons,forall_eq_or_imp,List.not_mem_nil,false_implies,implies_true,and_true] at hn
  obtain ⟨h1,h2,h3,h4,h5,h6,h7,h8,h9,h10⟩:=hn
  unfold dZ nK
  rw [if_neg h1,if_neg h2,if_neg h3,if_neg h4,if_neg h5,if_neg h6,if_neg h7,if_neg h8,if_neg h9,if_neg h10]
  rfl
 ·right
  rw [b]
  have hs:nms[k]=s:=by simpa using a
  have hk':k<10:=hk
  unfold dZ nK
  have hc:k=0∨k=1∨k=2∨k=3∨k=4∨k=5∨k=6∨k=7∨k=8∨k=9:=by omega
  rcases hc with rfl | rfl | rfl | rfl | rfl | rfl | rfl | rfl | rfl | rfl
  ·rw [←hs];exact ⟨0,20,_,_,rfl,rfl,rfl,rfl,by decide,by decide,by rw [show nms[0]=(⟨#[97,115,104]⟩:ByteArray) from rfl,if_pos rfl];rfl⟩
  ·rw [←hs];exact ⟨1,35,_,_,rfl,rfl,rfl,rfl,by decide,by decide,by rw [show nms[1]=(⟨#[98,101,101,99,104]⟩:ByteArray) from rfl,if_neg (bn (by decide)),if_pos rfl];rfl⟩
  ·rw [←hs];exact ⟨2,15,_,_,rfl,rfl,rfl,rfl,by decide,by decide,by rw [show nms[2]=(⟨#[98,105,114,99,104]⟩:ByteArray) from rfl,if_neg (bn (by decide)),if_neg (bn (by decide)),if_pos rfl];rfl⟩
  ·rw [←hs];exact ⟨3,50,_,_,rfl,rfl,rfl,rfl,by decide,by decide,by rw [show nms[3]=(⟨#[99,104,101,114,114,121]⟩:ByteArray) from rfl,if_neg (bn (by decide)),if_neg (bn (by decide)),if_neg (bn (by decide)),if_pos rfl];rfl⟩
  ·rw [←hs];exact ⟨4,95,_,_,rfl,rfl,rfl,rfl,by decide,by decide,by rw [show nms[4]=(⟨#[101,98,111,110,121]⟩:ByteArray) from rfl,if_neg (bn (by decide)),if_neg (bn (by decide)),if_neg (bn (by decide)),if_neg (bn (by decide)),if_pos rfl];rfl⟩
  ·rw [←hs];exact ⟨5,5,_,_,rfl,rfl,rfl,rfl,by decide,by decide,by rw [show nms[5]=(⟨#[104,111,108,108,121]⟩:ByteArray) from rfl,if_neg (bn (by decide)),if_neg (bn (by decide)),if_neg (bn (by decide)),if_neg (bn (by decide)),if_neg (bn (by decide)),if_pos rfl];rfl⟩
  ·rw [←hs];exact ⟨6,10,_,_,rfl,rfl,rfl,rfl,by decide,by decide,by rw [show nms[6]=(⟨#[109,97,112,108,101]⟩:ByteArray) from rfl,if_neg (bn (by decide)),if_neg (bn (by decide)),if_neg (bn (by decide)),if_neg (bn (by decide)),if_neg (bn (by decide)),if_neg (bn (by decide)),if_pos rfl];rfl⟩
  ·rw [←hs];exact ⟨7,40,_,_,rfl,rfl,rfl,rfl,by decide,by decide,by rw [show nms[7]=(⟨#[111,97,107]⟩:ByteArray) from rfl,if_neg (bn (by decide)),if_neg (bn (by decide)),if_neg (bn (by decide)),if_neg (bn (by decide)),if_neg (bn (by decide)),if_neg (bn (by decide)),if_neg (bn (by decide)),if_pos rfl];rfl⟩
  ·rw [←hs];exact ⟨8,80,_,_,rfl,rfl,rfl,rfl,by decide,by decide,by rw [show nms[8]=(⟨#[114,111,115,101,119,111,111,100]⟩:ByteArray) from rfl,if_neg (bn (by decide)),if_neg (bn (by decide)),if_neg (bn (by decide)),if_neg (bn (by decide)),if_neg (bn (by decide)),if_neg (bn (by decide)),if_neg (bn (by decide)),if_neg (bn (by decide)),if_pos rfl];rfl⟩
  ·rw [←hs];exact ⟨9,70,_,_,rfl,rfl,rfl,rfl,by decide,by decide,by rw [show nms[9]=(⟨#[119,97,108,110,117,116]⟩:ByteArray) from rfl,if_neg (bn (by decide)),if_neg (bn (by decide)),if_neg (bn (by decide)),if_neg (bn (by decide)),if_neg (bn (by decide)),if_neg (bn (by decide)),if_neg (bn (by decide)),if_neg (bn (by decide)),if_neg (bn (by decide)),if_pos rfl];rfl⟩
theorem aae (x:aF):∃v,vC x=some v∧jC x=some v:=by
 unfold vC jC
 rcases acL x.Jd with ⟨h1,h2⟩ | ⟨k,b,tb,row,h1,h2,h3,h4,h5,h6,h7⟩
 ·rw [h1,h2];exact ⟨false,rfl,rfl⟩
 ·rw [h1,h7,h2]
  simp only [Option.bind_some,h3,h4,WV,kC,if_true,yD]
  rw [if_neg (show ¬(k:Int) <0 by omega),aY (n:=b - 15) (by omega) (by omega),aY (n:=b+15) (by omega) (by omega)]
  by_cases c:0≤x.iC∧x.iC≤100
  ·rw [aY (n:=x.iC - b) (by omega) (by omega),decide_eq_true c]
   have e:decide (b - 15≤x.iC∧x.iC≤b+15)=decide (-15≤x.iC - b∧x.iC - b≤15):=decide_eq_decide.2 ⟨fun h=>by omega,fun h=>by omega⟩
   rw [e]
   cases decide (-15≤x.iC - b∧x.iC - b≤15)<;>exact ⟨_,rfl,rfl⟩
  ·rw [decide_eq_false c]
   exact ⟨false,rfl,rfl⟩
noncomputable def J8 (x:aF):Bool:=(vC x).getD false
theorem agA (x:aF):vC x=some (J8 x):=by
 obtain ⟨v,h,_⟩:=aae x
 unfold J8
 rw [h];rfl
theorem aaf (x:aF):jC x=some (J8 x):=by
 obtain ⟨v,h,h2⟩:=aae x
 unfold J8
 rw [h,h2];rfl
theorem aag (l:List aF) (hl:l.length≤1048576):oN l=some (l.all J8):=by
 unfold oN dP eH
 rcases X6 (f:=dA (fun a0=>iT a0) l) l J8 hl (fun i hi=>by
  unfold dA iT
  rw [if_pos (by omega),iO hi,Option.bind_some]
  simp only [aaf,Option.bind_some]) (by unfold dA;rw [if_neg (by omega)]) with ⟨a,b⟩ | ⟨a,k,b⟩
 ·rw [b,a];rfl
 ·rw [b,a]
  show some (!decide ((k:Int)≥0))=_
  rw [decide_eq_true (by omega)]
  rfl
def er {α:Type} (R:List α):List (α×α):=R.zip (R.drop 1++R.take 1)
theorem yu {α:Type} (R:List α):(er R).length=R.length:=by
 unfold er
 rw [List.length_zip,List.length_append,List.length_drop,List.length_take]
 omega
theorem aeF {α:Type} {R:List α} {j:Nat} (h:j<R.length):∃h2:(j+1) % R.length<R.length,(er R)[j]'(by rw [yu];exact h)=(R[j],R[(j+1) % R.length]):=by
 have h2:(j+1) % R.length<R.length:=Nat.mod_lt _ (by omega)
 refine ⟨h2,?_⟩
 unfold er
 rw [List.getElem_zip]
 congr 1
 by_cases c:j+1<R.length
 ·rw [List.getElem_append_left (by rw [List.length_drop];omega),List.getElem_drop]
  congr 1
  rw [Nat.mod_eq_of_lt c];omega
 ·have e:j+1=R.length:=by omega
  rw [List.getElem_append_right (by rw [List.length_drop];omega),List.getElem_take]
  congr 1
  rw [List.length_drop,e,Nat.mod_self];omega
theorem aah {α:Type} {R:List α} (hR:R.length≤1048576) {j:Nat} (h:j<R.length):rd R (j:Int)=some ((er R)[j]'(by rw [yu];exact h)).1∧md (w64 ((j:Int)+1)) (R.length:Int)=some (((j+1) % R.length:Nat):Int)∧rd R (((j+1) % R.length:Nat):Int)=some ((er R)[j]'(by rw [yu];exact h)).2:=by
 obtain ⟨h2,h3⟩:=aeF h
 rw [h3]
 exact ⟨iO h,by rw [bI (by omega)];exact uI (by omega),iO h2⟩
theorem aai {α:Type} {l:List α} {p:α→Bool} {i:Nat} (h:i<l.length):(l.take (i+1)).any p=((l.take i).any p||p l[i]):=by
 rw [List.take_succ_eq_append_getElem h,List.any_append,List.any_cons,List.any_nil,Bool.or_false]
def he (p q:Int×Int):Bool:=decide (q.1=p.1∧q.2=p.2∨q.1=p.2∧q.2=p.1)
theorem U0 (S:List Int) (hS:S.length≤1048576) (p:Int×Int):ru S p.1 p.2=some ((er S).any (he p)):=by
 obtain ⟨a,b⟩:=p
 unfold ru
 rcases uT (f:=oh a b S) (er S) (he (a,b)) (fun _=>true) (by rw [yu];omega) (fun i hi=>by
  rw [yu] at hi
  obtain ⟨e1,e2,e3⟩:=aah hS hi
  unfold oh
  rw [if_pos (by omega),e1,Option.bind_some,e2,Option.bind_some,e3,Option.bind_some]
  generalize (er S)[i]'(by rw [yu];exact hi)=q
  obtain ⟨c,d⟩:=q
  unfold he
  by_cases c1:c=a<;>by_cases c2:d=b<;>by_cases c3:c=b<;>by_cases c4:d=a<;>simp_all) (by unfold oh;rw [yu,if_neg (by omega)]) with ⟨h1,h2⟩ | ⟨i,hi,h1,_,h2⟩
 ·rw [h2,List.any_eq_false.2 fun x hx=>by simpa using h1 x hx]
  rfl
 ·rw [h2,List.any_eq_true.2 ⟨_,List.getElem_mem hi,h1⟩]
  rfl
def fc (R S:List Int):Bool:=(er R).any fun p=>(er S).any (he p)
def rg (d:aB) (k:Nat):List Int:=match d.ai[k]? with | some f=>f.Ring | none=>[]
def dm (d:aB) (k n:Nat):List Int:=((List.range n).filter fun m=>decide (m≠k)&&fc (rg d k) (rg d m)).map fun m:Nat=>(m:Int)
theorem aaj {d:aB} {k:Nat} (h:k<d.ai.length):rg d k=d.ai[k].Ring:=by
 unfold rg
 rw [List.getElem?_eq_getElem h]
theorem Og (d:aB) (k n:Nat):dm d k (n+1)=if n≠k∧fc (rg d k) (rg d n)=true then dm d k n++[(n:Int)] else dm d k n:=by
 unfold dm
 rw [List.range_succ,List.filter_append,List.map_append]
 by_cases c:n≠k∧fc (rg d k) (rg d n)=true
 ·rw [if_pos c,List.filter_cons_of_pos (by simp [c.1,c.2])];rfl
 ·rw [if_neg c,List.filter_cons_of_neg (by simpa using c),List.filter_nil,List.map_nil,List.append_nil]
theorem zL (d:aB) (k n:Nat):(dm d k n).length≤n:=by
 unfold dm
 rw [List.length_map]
 exact Nat.le_trans (List.length_filter_le _ (List.range n)) (Nat.le_of_eq List.length_range)
theorem Gw {d:aB} {k n:Nat} {x:Int} (h:x∈dm d k n):0≤x∧x<n:=by
 unfold dm at h
 obtain ⟨m,hm,rfl⟩:=List.mem_map.1 h
 have:=List.mem_range.1 (List.mem_filter.1 hm).1
 omega
def bR (d:aB):Prop:=d.ai.length≤1048576∧∀f∈d.ai,f.Ring.length≤1048576
theorem adu {d:aB} (h:bR d) (k:Nat):(rg d k).length≤1048576:=by
 unfold rg
 cases e:d.ai[k]? with
 | none=>simp
 | some f=>exact h.2 f (List.mem_of_getElem? e)
theorem X7 {d:aB} (hb:bR d) {k:Nat} (hk:k<d.ai.length):wW d (k:Int)=some (dm d k d.ai.length):=by
 unfold wW
 have hF:=hb.1
 rw [iO hk,Option.bind_some]
 have hR:(d.ai[k]).Ring.length≤1048576:=hb.2 _ (List.getElem_mem hk)
 have inner:∀f:Nat,(hf:f<d.ai.length)→aP (rD d (f:Int) d.ai[k]) (false,0)=some (fc (rg d k) (rg d f)):=by
  intro f hf
  have hS:(d.ai[f]).Ring.length≤1048576:=hb.2 _ (List.getElem_mem hf)
  rw [aaj hk,aaj hf]
  refine jF (fun j:Nat=>(((er (d.ai[k]).Ring).take j).any fun p=>(er (d.ai[f]).Ring).any (he p),(j:Int))) (d.ai[k]).Ring.length (fun j hj=>?_) ?_
  ·obtain ⟨e1,e2,e3⟩:=aah hR hj
   unfold rD
   simp only
   rw [if_pos (by omega),aai (by rw [yu];exact hj),e1,e2,iO hf,bI (by omega)]
   simp only [Option.bind_some]
   rw [e3]
   simp only [Option.bind_some,U0 _ hS]
   cases ((er (d.ai[k]).Ring).take j).any fun p=>(er (d.ai[f]).Ring).any (he p)<;>rfl
  ·unfold rD
   simp only
   rw [if_neg (by omega),List.take_of_length_le (by rw [yu];exact Nat.le_refl _)]
   rfl
 have e:aP (rE d (k:Int) d.ai[k]) (0,[])=some (dm d k d.ai.length):=by
  refine jF (fun f:Nat=>((f:Int),dm d k f)) d.ai.length (fun f hf=>?_) ?_
  ·have hl:=zL d k f
   unfold rE
   simp only
   rw [if_pos (by omega),inner f hf,Option.bind_some,Og]
   unfold rC
   rw [bI (by omega)]
   by_cases c:f≠k∧fc (rg d k) (rg d f)=true
   ·rw [if_pos c,if_pos ⟨by omega,c.2⟩,yS (by simp only [List.length_singleton];omega)];rfl
   ·rw [if_neg c,if_neg (fun h=>c ⟨by omega,h.2⟩)]
  ·unfold rE
   simp only
   rw [if_neg (by omega)]
 rw [e];rfl
def mm (p:Int×Int):bJ:=⟨min2 p.1 p.2,max2 p.1 p.2⟩
theorem adv (p q:Int×Int):((mm p).e0=(mm q).e0∧(mm p).e1=(mm q).e1)↔he p q=true:=by
 obtain ⟨a,b⟩:=p
 obtain ⟨c,d⟩:=q
 unfold mm he
 simp only [decide_eq_true_eq]
 rcases yl a b with h1 | h1<;>rcases yl c d with h2 | h2<;>rcases tV a b with h3 | h3<;>rcases tV c d with h4 | h4<;>rw [h1.2,h2.2,h3.2,h4.2]<;>omega
theorem Ru (R:List Int) (hR:R.length≤1048576):tJ R=some ((er R).map mm):=by
 unfold tJ
 have e:aP (oO R) (0,[])=some ((er R).map mm):=by
  refine jF (fun j:Nat=>((j:Int),((er R).take j).map mm)) R.length (fun j hj=>?_) ?_
  ·obtain ⟨e1,e2,e3⟩:=aah hR hj
   unfold oO
   simp only
   rw [if_pos (by omega),e1,Option.bind_some,e2,Option.bind_some,e3,Option.bind_some,yS (by rw [List.length_map,List.length_take,List.length_singleton];omega),Option.bind_some,bI (by omega),List.take_succ_eq_append_getElem (by rw [yu];exact hj),List.map_append]
   rfl
  ·unfold oO
   simp only
   rw [if_neg (by omega),List.take_of_length_le (by rw [yu];exact Nat.le_refl _)]
 rw [e];rfl
theorem aia (L:List (Int×Int)) (hL:L.length≤1048576) (p:Int×Int):fV (L.map mm) (mm p)=some (L.any (he p)):=by
 unfold fV jo
 rcases uT (f:=fU (L.map mm) (mm p)) L (he p) (fun k=>(k:Int)) (by omega) (fun i hi=>by
  unfold fU
  rw [List.length_map,if_pos (by omega),iO (by rw [List.length_map];exact hi),Option.bind_some,List.getElem_map]
  by_cases c:he p L[i]=true
  ·rw [if_pos ((adv _ _).2 c),if_pos c]
  ·rw [if_neg (fun h=>c ((adv _ _).1 h)),if_neg c]) (by unfold fU;rw [List.length_map,if_neg (by omega)]) with ⟨h1,h2⟩ | ⟨i,hi,h1,_,h2⟩
 ·rw [h2,List.any_eq_false.2 fun x hx=>by simpa using h1 x hx]
  rfl
 ·rw [h2,List.any_eq_true.2 ⟨_,List.getElem_mem hi,h1⟩]
  show some (decide ((i:Int)≥0))=_
  rw [decide_eq_true (by omega)]
theorem agB {f:bJ→Option Bool} {V:Int×Int→Bool} (L:List (Int×Int)) (hL:L.length≤1048576) (hf:∀p,f (mm p)=some (V p)):dW (L.map mm) f=some (L.any V):=by
 unfold dW iK
 rcases uT (f:=dV f (L.map mm)) L V (fun k=>(k:Int)) (by omega) (fun i hi=>by
  unfold dV
  rw [List.length_map,if_pos (by omega),iO (by rw [List.length_map];exact hi),Option.bind_some,List.getElem_map,hf]
  rfl) (by unfold dV;rw [List.length_map,if_neg (by omega)]) with ⟨h1,h2⟩ | ⟨i,hi,h1,_,h2⟩
 ·rw [h2,List.any_eq_false.2 fun x hx=>by simpa using h1 x hx]
  rfl
 ·rw [h2,List.any_eq_true.2 ⟨_,List.getElem_mem hi,h1⟩]
  show some (decide ((i:Int)≥0))=_
  rw [decide_eq_true (by omega)]
def BD (d:aB) (n:Nat):List (List bJ):=(List.range n).map fun k=>(er (rg d k)).map mm
def zk {β:Type} (g:Nat→β) (z:β) (t n:Nat):List β:=(List.range t).map g++List.replicate (n - t) z
theorem PR {β:Type} {g:Nat→β} {z:β} {t n:Nat} (h:t≤n):(zk g z t n).length=n:=by
 unfold zk
 rw [List.length_append,List.length_map,List.length_range,List.length_replicate];omega
theorem X8 {β:Type} {g:Nat→β} {z:β} {t n:Nat} (h:t<n):rd (zk g z t n) (t:Int)=some z:=by
 have hl:=PR (g:=g) (z:=z) (Nat.le_of_lt h)
 rw [iO (by omega)]
 unfold zk
 rw [List.getElem_append_right (by simp),List.getElem_replicate]
theorem X9 {β:Type} {g:Nat→β} {z:β} {t n:Nat} (h:t<n):(zk g z t n).set t (g t)=zk g z (t+1) n:=by
 unfold zk
 rw [List.set_append_right _ _ (by simp),List.length_map,List.length_range,Nat.sub_self,List.range_succ,List.map_append,List.append_assoc]
 congr 1
 rw [show n - t=(n - (t+1))+1 by omega,List.replicate_succ,List.set_cons_zero]
 rfl
theorem Ya {β:Type} {g:Nat→β} {z:β} {n:Nat}:zk g z n n=(List.range n).map g:=by
 unfold zk
 rw [Nat.sub_self,List.replicate_zero,List.append_nil]
theorem U1 {β:Type} {g:Nat→β} {z:β} {t n:Nat} (h:t<n):(zk g z t n).set t z=zk g z t n:=by
 have h1:=X8 (g:=g) (z:=z) h
 rw [UW] at h1
 obtain ⟨h2,h3⟩:=List.getElem?_eq_some_iff.1 h1
 apply List.ext_getElem?
 intro j
 by_cases c:j=t
 ·subst c;rw [List.getElem?_set_self h2,h1]
 ·rw [List.getElem?_set_ne (by omega)]
theorem aeG {α:Type} {l:List α} {t:Nat} {x:α} (h:t<l.length):rd (l.set t x) (t:Int)=some x:=by
 rw [UW,List.getElem?_set_self h]
theorem J9 {d:aB} (hb:bR d):oJ d=some ((List.range d.ai.length).map fun k=>dm d k d.ai.length):=by
 have hF:=hb.1
 unfold oJ
 have e:aP (nZ d) (0,[])=some (BD d d.ai.length):=by
  refine jF (fun t:Nat=>((t:Int),BD d t)) d.ai.length (fun t ht=>?_) ?_
  ·unfold nZ
   simp only
   rw [if_pos (by omega),iO ht,Option.bind_some,Ru _ (hb.2 _ (List.getElem_mem ht)),Option.bind_some,yS (by unfold BD;rw [List.length_map,List.length_range,List.length_singleton];omega),Option.bind_some,bI (by omega)]
   unfold BD
   rw [List.range_succ,List.map_append,List.map_singleton,aaj ht]
  ·unfold nZ
   simp only
   rw [if_neg (by omega)]
 rw [e]
 have hl:(BD d d.ai.length).length=d.ai.length:=by unfold BD;rw [List.length_map,List.length_range]
 simp only [Option.bind_some,hl]
 unfold mkl
 rw [if_pos ⟨by omega,by omega⟩,Option.bind_some]
 have ed:∀k:Nat,k<d.ai.length→rd (BD d d.ai.length) (k:Int)=some ((er (rg d k)).map mm):=by
  intro k hk
  rw [iO (by omega)]
  unfold BD
  rw [List.getElem_map,List.getElem_range]
 have inner:∀(t:Nat),t<d.ai.length→∀(out:List (List Int)),out.length=d.ai.length→out.set t []=out→aP (mJ (BD d d.ai.length) (t:Int)) (0,out)=some (out.set t (dm d t d.ai.length)):=by
  intro t ht out ho hz
  have h0:(((0:Nat):Int),out.set t (dm d t 0))=((0:Int),out):=by
   rw [show dm d t 0=[] from rfl,hz];rfl
  rw [←h0]
  refine jF (fun m:Nat=>((m:Int),out.set t (dm d t m))) d.ai.length (fun m hm=>?_) ?_
  ·have hn:=zL d t m
   unfold mJ
   simp only
   rw [hl,if_pos (by omega),Og]
   unfold mG
   rw [bI (by omega)]
   by_cases c1:m=t
   ·subst c1
    simp only [ne_eq,not_true_eq_false,if_false,false_and,Option.bind_some,Bool.false_eq_true]
   ·rw [if_pos (show (t:Int)≠(m:Int) by omega),ed t ht]
    have hc:∀p:Int×Int,jy (mm p) (BD d d.ai.length) (m:Int)=some ((er (rg d m)).any (he p)):=by
     intro p
     unfold jy
     rw [ed m hm,Option.bind_some,aia _ (by rw [yu];exact adu hb m),Option.bind_some]
    simp only [Option.bind_some]
    rw [agB (V:=fun p=>(er (rg d m)).any (he p)) (er (rg d t)) (by rw [yu];exact adu hb t) hc]
    simp only [Option.bind_some]
    rw [show ((er (rg d t)).any fun p=>(er (rg d m)).any (he p))=fc (rg d t) (rg d m) from rfl]
    rw [aeG (by omega)]
    cases hfc:fc (rg d t) (rg d m) with
    | false=>simp
    | true=>
     simp only [if_true,Option.bind_some,and_true]
     rw [if_pos c1,yS (by simp only [List.length_singleton];omega),Option.bind_some,show ((t:Int)).toNat=t from rfl,List.set_set]
  ·unfold mJ
   simp only
   rw [hl,if_neg (by omega)]
 have h0:(((0:Nat):Int),zk (fun k=>dm d k d.ai.length) [] 0 d.ai.length)=((0:Int),List.replicate (d.ai.length:Int).toNat ([]:List Int)):=by
  unfold zk
  simp
 rw [←h0]
 have e2:aP (nY (BD d d.ai.length)) (((0:Nat):Int),zk (fun k=>dm d k d.ai.length) [] 0 d.ai.length)=some (zk (fun k=>dm d k d.ai.length) [] d.ai.length d.ai.length):=by
  refine jF (fun t:Nat=>((t:Int),zk (fun k=>dm d k d.ai.length) [] t d.ai.length)) d.ai.length (fun t ht=>?_) ?_
  ·unfold nY
   simp only
   rw [hl,if_pos (by omega),inner t ht _ (PR (Nat.le_of_lt ht)) (U1 ht),Option.bind_some,bI (by omega)]
   rw [←X9 ht]
  ·unfold nY
   simp only
   rw [hl,if_neg (by omega)]
 rw [e2,Ya];rfl
def mnS (z:Int) (f:Nat→Int):Nat→Int
 | 0=>z
 | n+1=>if n=0∨f n<mnS z f n then f n else mnS z f n
theorem Rw (z:Int) (f:Nat→Int):∀n,0<n→(∃i,i<n∧mnS z f n=f i)∧∀i,i<n→mnS z f n≤f i:=by
 intro n
 induction n with
 | zero=>intro h;omega
 | succ n ih=>
  intro _
  by_cases c:n=0
  ·subst c
   have e:mnS z f (0+1)=f 0:=by unfold mnS;rw [if_pos (.inl rfl)]
   rw [e]
   exact ⟨⟨0,by omega,rfl⟩,fun i hi=>by
    obtain rfl:i=0:=by omega
    exact Int.le_refl _⟩
  ·obtain ⟨⟨i,hi,he⟩,hm⟩:=ih (by omega)
   unfold mnS
   by_cases c2:f n<mnS z f n
   ·rw [if_pos (.inr c2)]
    refine ⟨⟨n,by omega,rfl⟩,fun k hk=>?_⟩
    by_cases e:k=n
    ·subst e;exact Int.le_refl _
    ·have:=hm k (by omega);omega
   ·rw [if_neg (fun h=>h.elim c c2)]
    refine ⟨⟨i,by omega,he⟩,fun k hk=>?_⟩
    by_cases e:k=n
    ·subst e;omega
    ·exact hm k (by omega)
theorem aak {z1 z2:Int} {f g:Nat→Int} {n:Nat} (hn:0<n) (h1:∀i,i<n→∃j,j<n∧f i=g j) (h2:∀j,j<n→∃i,i<n∧g j=f i):mnS z1 f n=mnS z2 g n:=by
 obtain ⟨⟨i,hi,ei⟩,mi⟩:=Rw z1 f n hn
 obtain ⟨⟨j,hj,ej⟩,mj⟩:=Rw z2 g n hn
 obtain ⟨j',hj',e1⟩:=h1 i hi
 obtain ⟨i',hi',e2⟩:=h2 j hj
 have a1:=mj j' hj'
 have a2:=mi i' hi'
 omega
def EG (a b:Int):Int:=min2 (max2 (a - b) (b - a)) (180 - max2 (a - b) (b - a))
def ctP (a b:aF):Int:=max2 (a.iC - b.iC) (b.iC - a.iC)+(EG a.dw b.dw).tdiv 6
def okV (a:aF):Prop:=0≤a.iC∧a.iC≤100∧0≤a.dw∧a.dw≤179
theorem Xc {a:aF} (h:J8 a=true):okV a:=by
 have e:=aaf a
 rw [h] at e
 unfold jC at e
 simp only [kC] at e
 cases hs:dZ a.Jd with
 | none=>rw [hs] at e;cases e
 | some x=>
  rw [hs] at e
  simp only [Option.bind_some] at e
  cases h2:x.2 with
  | false=>rw [h2] at e;cases e
  | true=>
   rw [h2] at e
   by_cases c1:0≤a.iC∧a.iC≤100
   ·by_cases c3:0≤a.dw∧a.dw≤179
    ·exact ⟨c1.1,c1.2,c3.1,c3.2⟩
    ·rw [decide_eq_true c1,decide_eq_false c3] at e
     simp at e
   ·rw [decide_eq_false c1] at e
    simp at e
theorem aal (a b:Int):lM a b=some (max2 a b):=by
 unfold lM
 rcases tV a b with h | h<;>rw [h.2]
 ·rw [if_neg (by omega)]
 ·by_cases c:a>b
  ·rw [if_pos c]
  ·rw [if_neg c];congr 1;omega
theorem adw (a b:Int):mX a b=some (min2 a b):=by
 unfold mX
 rcases yl a b with h | h<;>rw [h.2]
 ·rw [if_neg (by omega)]
 ·by_cases c:a<b
  ·rw [if_pos c]
  ·rw [if_neg c];congr 1;omega
theorem aam {a b:aF} (ha:okV a) (hb:okV b):0≤EG a.dw b.dw∧EG a.dw b.dw≤180∧-200≤max2 (a.dw - b.dw) (b.dw - a.dw)∧max2 (a.dw - b.dw) (b.dw - a.dw)≤200∧0≤max2 (a.iC - b.iC) (b.iC - a.iC)∧max2 (a.iC - b.iC) (b.iC - a.iC)≤100:=by
 obtain ⟨a1,a2,a3,a4⟩:=ha
 obtain ⟨b1,b2,b3,b4⟩:=hb
 unfold EG
 rcases tV (a.dw - b.dw) (b.dw - a.dw) with h | h<;>rcases tV (a.iC - b.iC) (b.iC - a.iC) with h' | h'<;>rw [h.2,h'.2]
 all_goals
  rcases yl (b.dw - a.dw) (180 - (b.dw - a.dw)) with k | k<;>rcases yl (a.dw - b.dw) (180 - (a.dw - b.dw)) with k' | k'<;>first | rw [k.2] | rw [k'.2]
  all_goals omega
theorem acM {a b:aF} (ha:okV a) (hb:okV b):0≤ctP a b∧ctP a b≤200:=by
 obtain ⟨h1,h2,_,_,h3,h4⟩:=aam ha hb
 unfold ctP
 have e:(EG a.dw b.dw).tdiv 6=EG a.dw b.dw / 6:=Int.tdiv_eq_ediv_of_nonneg h1
 rw [e]
 omega
theorem aib {a b:aF} (ha:okV a) (hb:okV b):qj a b=some (ctP a b):=by
 obtain ⟨h1,h2,h5,h6,h3,h4⟩:=aam ha hb
 have h0:=acM ha hb
 obtain ⟨a1,a2,a3,a4⟩:=ha
 obtain ⟨b1,b2,b3,b4⟩:=hb
 unfold qj yE
 rw [aY (n:=a.iC - b.iC) (by omega) (by omega),aY (n:=b.iC - a.iC) (by omega) (by omega),aY (n:=a.dw - b.dw) (by omega) (by omega),aY (n:=b.dw - a.dw) (by omega) (by omega),aal,aal,Option.bind_some,Option.bind_some,
  aY (n:=180 - max2 (a.dw - b.dw) (b.dw - a.dw)) (by omega) (by omega),adw,Option.bind_some,Option.bind_some]
 have e:dv .i64 (EG a.dw b.dw) 6=some ((EG a.dw b.dw).tdiv 6):=by
  unfold dv
  rw [if_neg (by decide)]
  congr 1
  have e:(EG a.dw b.dw).tdiv 6=EG a.dw b.dw / 6:=Int.tdiv_eq_ediv_of_nonneg h1
  exact aY (by rw [e];omega) (by rw [e];omega)
 show (dv .i64 (EG a.dw b.dw) 6).bind _=_
 rw [e,Option.bind_some]
 show some (w64 (ctP a b))=_
 rw [aY (by omega) (by omega)]
theorem aic {a b:aF} (ha:okV a) (hb:okV b):uO a b=some (ctP a b):=by
 obtain ⟨h1,h2,h5,h6,h3,h4⟩:=aam ha hb
 have h0:=acM ha hb
 obtain ⟨a1,a2,a3,a4⟩:=ha
 obtain ⟨b1,b2,b3,b4⟩:=hb
 unfold uO uV
 simp only [kC]
 rw [decide_eq_true (show 0≤a.dw∧a.dw≤179 from ⟨a3,a4⟩),decide_eq_true (show 0≤b.dw∧b.dw≤179 from ⟨b3,b4⟩)]
 simp only [Option.bind_some,if_true,Bool.not_true,Bool.false_eq_true,if_false]
 rw [aY (n:=a.iC - b.iC) (by omega) (by omega),aY (n:=b.iC - a.iC) (by omega) (by omega),aY (n:=a.dw - b.dw) (by omega) (by omega),aY (n:=b.dw - a.dw) (by omega) (by omega),
  aY (n:=180 - max2 (a.dw - b.dw) (b.dw - a.dw)) (by omega) (by omega)]
 have e:dv .i64 (EG a.dw b.dw) 6=some ((EG a.dw b.dw).tdiv 6):=by
  unfold dv
  rw [if_neg (by decide)]
  congr 1
  have e:(EG a.dw b.dw).tdiv 6=EG a.dw b.dw / 6:=Int.tdiv_eq_ediv_of_nonneg h1
  exact aY (by rw [e];omega) (by rw [e];omega)
 show (dv .i64 (EG a.dw b.dw) 6).bind _=_
 rw [e,Option.bind_some]
 show some (w64 (ctP a b))=_
 rw [aY (by omega) (by omega)]
section
variable {S:List aF} (hS:∀x∈S,okV x) (hN:S.length≤8) (h1:1≤S.length)
def gV (S:List aF) (i:Nat):aF:=S.getD i ⟨⟨#[]⟩,0,0⟩
include hS in
theorem PS {i:Nat} (h:i<S.length):rd S (i:Int)=some (gV S i)∧okV (gV S i):=by
 have e:gV S i=S[i]:=by unfold gV;rw [List.getD_eq_getElem?_getD,List.getElem?_eq_getElem h];rfl
 rw [e]
 exact ⟨iO h,hS _ (List.getElem_mem h)⟩
def cmP (S:List aF) (a b:Nat) (n:Nat):Int:=mnS 0 (fun i=>ctP (gV S ((i+a) % S.length)) (gV S ((i+b) % S.length))) n
def csP (S:List aF) (by_:Nat) (n:Nat):Int:=mnS (-1) (fun i=>ctP (gV S i) (gV S ((i+by_) % S.length))) n
include hS hN h1
theorem aid {a b:Nat} (ha:a<S.length) (hb:b<S.length):ql S (a:Int) (b:Int)=some (cmP S a b S.length):=by
 unfold ql
 have e:aP (mO (a:Int) (b:Int) S) (0,0)=some (cmP S a b S.length):=by
  refine jF (fun i:Nat=>(cmP S a b i,(i:Int))) S.length (fun i hi=>?_) ?_
  ·have k1:(i+a) % S.length<S.length:=Nat.mod_lt _ (by omega)
   have k2:(i+b) % S.length<S.length:=Nat.mod_lt _ (by omega)
   obtain ⟨r1,o1⟩:=PS hS k1
   obtain ⟨r2,o2⟩:=PS hS k2
   unfold mO mM
   simp only
   rw [if_pos (by omega),aY (n:=(i:Int)+(a:Int)) (by omega) (by omega),aY (n:=(i:Int)+(b:Int)) (by omega) (by omega),bI (by omega),
    show (i:Int)+(a:Int)=((i+a:Nat):Int) by omega,show (i:Int)+(b:Int)=((i+b:Nat):Int) by omega,uI (by omega),uI (by omega),Option.bind_some,r1,Option.bind_some,Option.bind_some,r2,Option.bind_some,aib o1 o2,Option.bind_some]
   unfold cmP
   rw [show mnS 0 (fun i=>ctP (gV S ((i+a) % S.length)) (gV S ((i+b) % S.length))) (i+1)=if i=0∨ctP (gV S ((i+a) % S.length)) (gV S ((i+b) % S.length)) <mnS 0 (fun i=>ctP (gV S ((i+a) % S.length)) (gV S ((i+b) % S.length))) i then ctP (gV S ((i+a) % S.length)) (gV S ((i+b) % S.length)) else mnS 0 (fun i=>ctP (gV S ((i+a) % S.length)) (gV S ((i+b) % S.length))) i from rfl]
   generalize mnS 0 (fun i=>ctP (gV S ((i+a) % S.length)) (gV S ((i+b) % S.length))) i=u
   generalize ctP (gV S ((i+a) % S.length)) (gV S ((i+b) % S.length))=c
   by_cases q:i=0∨c<u
   ·rw [if_pos q,if_pos (by omega)]
   ·rw [if_neg q,if_neg (by omega)]
  ·unfold mO
   simp only
   rw [if_neg (by omega)]
 rw [e]
 rfl
theorem aeH:kz S=some ((List.range S.length).map fun y=>csP S y S.length):=by
 unfold kz
 have inner:∀y:Nat,y<S.length→aP (jS S (y:Int)) (-1,0)=some (csP S y S.length):=by
  intro y hy
  refine jF (fun i:Nat=>(csP S y i,(i:Int))) S.length (fun i hi=>?_) ?_
  ·have k2:(i+y) % S.length<S.length:=Nat.mod_lt _ (by omega)
   obtain ⟨r1,o1⟩:=PS hS hi
   obtain ⟨r2,o2⟩:=PS hS k2
   have h0:=acM o1 o2
   unfold jS jE
   simp only
   rw [if_pos (by omega),r1,Option.bind_some,aY (n:=(i:Int)+(y:Int)) (by omega) (by omega),bI (by omega),show (i:Int)+(y:Int)=((i+y:Nat):Int) by omega,uI (by omega),Option.bind_some,r2,Option.bind_some,aic o1 o2,Option.bind_some]
   have hneg:csP S y i<0↔i=0:=by
    constructor
    ·intro h
     by_cases c:i=0
     ·exact c
     ·obtain ⟨⟨j,hj,ej⟩,_⟩:=Rw (-1) (fun i=>ctP (gV S i) (gV S ((i+y) % S.length))) i (by omega)
      have e2:csP S y i=ctP (gV S j) (gV S ((j+y) % S.length)):=ej
      have:=(acM (PS hS (show j<S.length by omega)).2 (PS hS (show (j+y) % S.length<S.length from Nat.mod_lt _ (by omega))).2).1
      omega
    ·rintro rfl
     show (-1:Int) <0
     omega
   rw [show csP S y (i+1)=if i=0∨ctP (gV S i) (gV S ((i+y) % S.length)) <csP S y i then ctP (gV S i) (gV S ((i+y) % S.length)) else csP S y i from rfl]
   by_cases q:i=0∨ctP (gV S i) (gV S ((i+y) % S.length)) <csP S y i
   ·rw [if_pos q,if_pos (by rw [hneg];exact q)]
   ·rw [if_neg q,if_neg (by rw [hneg];exact q)]
  ·unfold jS
   simp only
   rw [if_neg (by omega)]
 have e:aP (jT S) (0,[])=some ((List.range S.length).map fun y=>csP S y S.length):=by
  refine jF (fun y:Nat=>((y:Int),(List.range y).map fun y=>csP S y S.length)) S.length (fun y hy=>?_) ?_
  ·unfold jT
   simp only
   rw [if_pos (by omega),inner y hy,Option.bind_some,yS (by rw [List.length_map,List.length_range,List.length_singleton];omega),Option.bind_some,bI (by omega),List.range_succ,List.map_append]
   rfl
  ·unfold jT
   simp only
   rw [if_neg (by omega)]
 rw [e]
 rfl
omit hS hN in
theorem aan {a b:Nat} (ha:a<S.length) (hb:b<S.length):cmP S a b S.length=csP S ((b+S.length - a) % S.length) S.length:=by
 have md:∀{x y n:Nat},x<n→y<n→(x+y) % n=if x+y<n then x+y else x+y - n:=by
  intro x y n hx hy
  by_cases c:x+y<n
  ·rw [if_pos c,Nat.mod_eq_of_lt c]
  ·rw [if_neg c,Nat.mod_eq_sub_mod (by omega),Nat.mod_eq_of_lt (by omega)]
 have hd:(b+S.length - a) % S.length=if b<a then b+S.length - a else b - a:=by
  by_cases c:b<a
  ·rw [if_pos c,Nat.mod_eq_of_lt (by omega)]
  ·rw [if_neg c,Nat.mod_eq_sub_mod (by omega),Nat.mod_eq_of_lt (by omega)];omega
 have hdl:(b+S.length - a) % S.length<S.length:=Nat.mod_lt _ (by omega)
 unfold cmP csP
 have key:∀i,i<S.length→((i+a) % S.length+(b+S.length - a) % S.length) % S.length=(i+b) % S.length:=by
  intro i hi
  have k1:(i+a) % S.length<S.length:=Nat.mod_lt _ (by omega)
  rw [md k1 hdl,md hi hb,md hi ha,hd]
  split<;>split<;>split<;>(try split)<;>omega
 refine aak (by omega) (fun i hi=>⟨(i+a) % S.length,Nat.mod_lt _ (by omega),?_⟩) fun j hj=>?_
 ·rw [key i hi]
 ·refine ⟨(j+(S.length - a)) % S.length,Nat.mod_lt _ (by omega),?_⟩
  have hi:(j+(S.length - a)) % S.length<S.length:=Nat.mod_lt _ (by omega)
  have e:((j+(S.length - a)) % S.length+a) % S.length=j:=by
   by_cases c:j+(S.length - a) <S.length
   ·have e1:(j+(S.length - a)) % S.length=j+(S.length - a):=Nat.mod_eq_of_lt c
    rw [e1,Nat.mod_eq_sub_mod (by omega),Nat.mod_eq_of_lt (by omega)];omega
   ·have e1:(j+(S.length - a)) % S.length=j+(S.length - a) - S.length:=by rw [Nat.mod_eq_sub_mod (by omega),Nat.mod_eq_of_lt (by omega)]
    rw [e1,Nat.mod_eq_of_lt (by omega)];omega
  have:=key _ hi
  rw [e] at this
  rw [e,this]
end
theorem Xd (p q:Int×Int):he p q=he q p:=by
 unfold he
 exact decide_eq_decide.2 (by omega)
theorem acN (R S:List Int):fc R S=fc S R:=by
 unfold fc
 rw [Bool.eq_iff_iff,List.any_eq_true,List.any_eq_true]
 constructor
 ·rintro ⟨p,hp,h⟩
  obtain ⟨q,hq,h2⟩:=List.any_eq_true.1 h
  exact ⟨q,hq,List.any_eq_true.2 ⟨p,hp,by rw [Xd];exact h2⟩⟩
 ·rintro ⟨p,hp,h⟩
  obtain ⟨q,hq,h2⟩:=List.any_eq_true.1 h
  exact ⟨q,hq,List.any_eq_true.2 ⟨p,hp,by rw [Xd];exact h2⟩⟩
theorem Gj {d:aB} {i k n:Nat}:(k:Int)∈dm d i n↔k<n∧k≠i∧fc (rg d i) (rg d k)=true:=by
 unfold dm
 rw [List.mem_map]
 constructor
 ·rintro ⟨m,hm,e⟩
  obtain rfl:m=k:=by omega
  obtain ⟨h1,h2⟩:=List.mem_filter.1 hm
  simp at h2
  exact ⟨List.mem_range.1 h1,h2.1,h2.2⟩
 ·rintro ⟨h1,h2,h3⟩
  exact ⟨k,List.mem_filter.2 ⟨List.mem_range.2 h1,by simp [h2,h3]⟩,rfl⟩
theorem Oh {d:aB} {i k n:Nat} (hi:i<n) (h:(k:Int)∈dm d i n):(i:Int)∈dm d k n:=by
 obtain ⟨h1,h2,h3⟩:=Gj.1 h
 exact Gj.2 ⟨hi,fun e=>h2 e.symm,by rw [acN];exact h3⟩
def prI (i:Nat) (m:List Int):List (List Int):=(m.filter fun x=>decide (x> (i:Int))).map fun x=>[(i:Int),x]
theorem aao {i:Nat} {m:List Int} {j:Nat} (h:j<m.length):prI i (m.take (j+1))=if m[j] > (i:Int) then prI i (m.take j)++[[(i:Int),m[j]]] else prI i (m.take j):=by
 unfold prI
 rw [List.take_succ_eq_append_getElem h,List.filter_append,List.map_append]
 by_cases c:m[j] > (i:Int)
 ·rw [if_pos c]
  simp only [List.filter_cons,List.filter_nil,decide_eq_true c,if_true,List.map_cons,List.map_nil]
 ·rw [if_neg c]
  simp only [List.filter_cons,List.filter_nil,decide_eq_false c,Bool.false_eq_true,if_false,List.map_nil,List.append_nil]
theorem Xe (i:Nat) (m:List Int):(prI i m).length≤m.length:=by
 unfold prI
 rw [List.length_map]
 exact List.length_filter_le _ m
def prP (d:aB) (t:Nat):List (List Int):=(List.range t).flatMap fun i=>prI i (dm d i d.ai.length)
theorem TR (d:aB) (t:Nat):prP d (t+1)=prP d t++prI t (dm d t d.ai.length):=by
 unfold prP
 rw [List.range_succ,List.flatMap_append,List.flatMap_singleton]
theorem Xf {d:aB} (hb:bR d) (t:Nat):(prP d t).length≤t*1048576:=by
 induction t with
 | zero=>exact Nat.le_refl _
 | succ t ih=>
  rw [TR,List.length_append]
  have h1:=Xe t (dm d t d.ai.length)
  have h2:=zL d t d.ai.length
  have:=hb.1
  omega
theorem Rx {d:aB} {t:Nat} {p:List Int}:p∈prP d t↔∃i x:Nat,i<t∧i<x∧p=[(i:Int),(x:Int)]∧(x:Int)∈dm d i d.ai.length:=by
 unfold prP
 rw [List.mem_flatMap]
 constructor
 ·rintro ⟨i,hi,hp⟩
  obtain ⟨x,hx,rfl⟩:=List.mem_map.1 hp
  obtain ⟨h1,h2⟩:=List.mem_filter.1 hx
  have h2:x> (i:Int):=by simpa using h2
  have h3:=Gw h1
  obtain ⟨y,rfl⟩:∃y:Nat,x=(y:Int):=⟨x.toNat,by omega⟩
  exact ⟨i,y,List.mem_range.1 hi,by omega,rfl,h1⟩
 ·rintro ⟨i,x,hi,hx,rfl,h1⟩
  exact ⟨i,List.mem_range.2 hi,List.mem_map.2 ⟨(x:Int),List.mem_filter.2 ⟨h1,by simp;omega⟩,rfl⟩⟩
theorem acO {d:aB} (hb:bR d):uP d=some (prP d d.ai.length):=by
 have hF:=hb.1
 unfold uP
 have inner:∀(i:Nat) (out:List (List Int)),out.length≤1099511627776→aP (nM (i:Int) (dm d i d.ai.length)) (0,out)=some (out++prI i (dm d i d.ai.length)):=by
  intro i out ho
  have hl:=zL d i d.ai.length
  have e:=jF (f:=nM (i:Int) (dm d i d.ai.length)) (r:=out++prI i (dm d i d.ai.length)) (fun j:Nat=>((j:Int),out++prI i ((dm d i d.ai.length).take j))) (dm d i d.ai.length).length (fun j hj=>by
   have h2:=Xe i ((dm d i d.ai.length).take j)
   rw [List.length_take] at h2
   unfold nM qh
   simp only
   rw [if_pos (by omega),iO hj,Option.bind_some,bI (by omega),aao hj]
   by_cases c:(dm d i d.ai.length)[j] > (i:Int)
   ·rw [if_pos c,if_pos c,Option.bind_some,yS (by rw [List.length_append,List.length_singleton];omega),Option.bind_some,List.append_assoc]
   ·rw [if_neg c,if_neg c]) (by
   unfold nM
   simp only
   rw [if_neg (by omega),List.take_of_length_le (Nat.le_refl _)])
  have h0:out++prI i ((dm d i d.ai.length).take 0)=out:=by
   rw [List.take_zero]
   exact List.append_nil out
  rw [h0] at e
  exact e
 have e:aP (qi d) (0,[])=some (prP d d.ai.length):=by
  refine jF (fun i:Nat=>((i:Int),prP d i)) d.ai.length (fun i hi=>?_) ?_
  ·have h2:=Xf hb i
   unfold qi
   simp only
   rw [if_pos (by omega),X7 hb hi,Option.bind_some,inner i _ (by omega),Option.bind_some,bI (by omega),TR]
  ·unfold qi
   simp only
   rw [if_neg (by omega)]
 rw [e]
 rfl
section
variable {d:aB} (hb:bR d) {S:List aF} (hS:∀x∈S,okV x) (hN:S.length≤8) (h1:1≤S.length)
def toI (G:List Nat):List Int:=G.map fun g:Nat=>(g:Int)
theorem sH (G:List Nat):(toI G).length=G.length:=by unfold toI;rw [List.length_map]
theorem Jr (G:List Nat) (t:Nat):toI G++[(t:Int)]=toI (G++[t]):=by
 unfold toI
 rw [List.map_append];rfl
theorem Oi {G:List Nat} {i:Nat} (h:i<G.length):rd (toI G) (i:Int)=some ((G.getD i 0:Nat):Int):=by
 rw [iO (by rw [sH];exact h)]
 unfold toI
 rw [List.getElem_map,List.getD_eq_getElem?_getD,List.getElem?_eq_getElem h]
 rfl
def Yb (S:List aF) (least:Int) (G:List Nat) (t:Nat) (p:List Int):Bool:=decide (p.getD 1 0=(G.length:Int))&&decide (cmP S (G.getD (p.getD 0 0).toNat 0) t S.length<least)
def BF (S:List aF) (least:Int) (G:List Nat) (t:Nat) (m:Int):Bool:=decide (m> (G.length:Int))||decide (csP S ((t+S.length - G.getD m.toNat 0) % S.length) S.length≥least)
theorem getD_lt {G:List Nat} {N:Nat} (hG:∀g∈G,g<N) (hN:0<N) (i:Nat):G.getD i 0<N:=by
 rw [List.getD_eq_getElem?_getD]
 cases e:G[i]? with
 | none=>exact hN
 | some x=>exact hG x (List.mem_of_getElem? e)
include hb hS hN h1
omit hb hS hN in
theorem aap (least:Int) {G:List Nat} (hG:∀g∈G,g<S.length) (hk:G.length<d.ai.length) {t:Nat} (ht:t<S.length):
 (!((prP d d.ai.length).any (Yb S least G t)))=(dm d G.length d.ai.length).all (BF S least G t):=by
 rw [Bool.eq_iff_iff,Bool.not_eq_true',List.any_eq_false,List.all_eq_true]
 have key:∀i:Nat,cmP S (G.getD i 0) t S.length=csP S ((t+S.length - G.getD i 0) % S.length) S.length:=fun i=>aan h1 (getD_lt hG (by omega) i) ht
 constructor
 ·intro h m hm
  obtain ⟨m0,m1⟩:=Gw hm
  obtain ⟨i,rfl⟩:∃i:Nat,m=(i:Int):=⟨m.toNat,by omega⟩
  unfold BF
  by_cases c:(i:Int) > (G.length:Int)
  ·rw [decide_eq_true c];rfl
  ·have hne:=(Gj.1 hm).2.1
   have hin:i<G.length:=by omega
   have hp:[(i:Int),(G.length:Int)]∈prP d d.ai.length:=Rx.2 ⟨i,G.length,by omega,hin,rfl,Oh hk hm⟩
   have:=h _ hp
   unfold Yb at this
   simp at this
   rw [decide_eq_false c,Bool.false_or,decide_eq_true_eq]
   have e:=key i
   show csP S ((t+S.length - G.getD i 0) % S.length) S.length≥least
   rw [←e]
   simpa [List.getD_eq_getElem?_getD] using this
 ·intro h p hp
  obtain ⟨i,x,hi,hx,rfl,hm⟩:=Rx.1 hp
  unfold Yb
  by_cases c:(x:Int)=(G.length:Int)
  ·obtain rfl:x=G.length:=by omega
   have:=h _ (Oh hi hm)
   unfold BF at this
   rw [decide_eq_false (show ¬(i:Int) > (G.length:Int) by omega),Bool.false_or,decide_eq_true_eq] at this
   have this:csP S ((t+S.length - G.getD i 0) % S.length) S.length≥least:=this
   rw [←key i] at this
   show ¬(decide ((G.length:Int)=(G.length:Int))&&decide (cmP S (G.getD i 0) t S.length<least))=true
   simp only [Bool.and_eq_true,decide_eq_true_eq,not_and]
   intro _
   omega
  ·show ¬(decide ((x:Int)=(G.length:Int))&&_)=true
   rw [decide_eq_false c]
   simp
theorem aeI (least:Int) (fi:Bool) (bs:List Int) (c n B:Int) {G:List Nat} (hG:∀g∈G,g<S.length) (hk:G.length<d.ai.length) {t:Nat} (ht:t<S.length):
 mP (some ⟨prP d d.ai.length,(d.ai.length:Int),S,least,toI (G++[t]),fi,bs,c,n,B⟩)=some (!((prP d d.ai.length).any (Yb S least G t))):=by
 have hF:=hb.1
 have hl:=Xf hb d.ai.length
 have hlen:((toI (G++[t])).length:Int) - 1=(G.length:Int):=by rw [sH,List.length_append,List.length_singleton];omega
 unfold mP
 simp only
 rcases uT (f:=jU ⟨prP d d.ai.length,(d.ai.length:Int),S,least,toI (G++[t]),fi,bs,c,n,B⟩) (prP d d.ai.length) (Yb S least G t) (fun _=>false) (by omega) (fun i hi=>by
  obtain ⟨a,x,ha,hx,hp,hm⟩:=Rx.1 (List.getElem_mem hi)
  unfold jU
  simp only
  rw [if_pos (by omega),iO hi,Option.bind_some,hp]
  simp only [hlen]
  rw [aY (n:=(G.length:Int)) (by omega) (by omega)]
  rw [show rd [(a:Int),(x:Int)] 1=some (x:Int) from rfl,Option.bind_some]
  rw [show Yb S least G t [(a:Int),(x:Int)]=(decide ((x:Int)=(G.length:Int))&&decide (cmP S (G.getD a 0) t S.length<least)) from rfl]
  by_cases cx:(x:Int)=(G.length:Int)
  ·rw [if_pos cx,decide_eq_true cx,Option.bind_some,show rd [(a:Int),(x:Int)] 0=some (a:Int) from rfl,Option.bind_some,Oi (by rw [List.length_append];omega),Option.bind_some,Oi (by rw [List.length_append,List.length_singleton];omega),Option.bind_some]
   have ea:(G++[t]).getD a 0=G.getD a 0:=by rw [List.getD_eq_getElem?_getD,List.getElem?_append_left (by omega),List.getD_eq_getElem?_getD]
   have et:(G++[t]).getD G.length 0=t:=by rw [List.getD_eq_getElem?_getD,List.getElem?_append_right (Nat.le_refl _),Nat.sub_self];rfl
   rw [ea,et,aid hS hN h1 (getD_lt hG (by omega) a) ht,Option.bind_some,Option.bind_some,Bool.true_and]
  ·rw [if_neg cx,decide_eq_false cx]
   rfl) (by unfold jU;simp only;rw [if_neg (by omega)]) with ⟨q1,q2⟩ | ⟨i,hi,q1,_,q2⟩
 ·rw [q2,List.any_eq_false.2 fun x hx=>by simpa using q1 x hx]
  rfl
 ·rw [q2,List.any_eq_true.2 ⟨_,List.getElem_mem hi,q1⟩]
  rfl
abbrev FC:=aZ→Option (Bool×aZ)
abbrev FD:=(aK×List Int)→Option (Bool×aK)
noncomputable abbrev SS:FD:=fun s=>bC s.1 s.2
omit hS hN in
theorem aaq (s0:aK) (hc:s0.bT.length=S.length) (hN:S.length≤8) (least:Int) {G:List Nat} (hG:∀g∈G,g<S.length) (hk:G.length<d.ai.length) {t:Nat} (ht:t<S.length):
 aP (iy SS s0 ((List.range S.length).map fun y=>csP S y S.length) least (toI G) (t:Int) (dm d G.length d.ai.length)) (true,0)=some ((dm d G.length d.ai.length).all (BF S least G t)):=by
 have hF:=hb.1
 have hl:=zL d G.length d.ai.length
 have at_:∀{l:List Int} {p:Int→Bool} {i:Nat} (h:i<l.length),(l.take (i+1)).all p=((l.take i).all p&&p l[i]):=by
  intro l p i h
  rw [List.take_succ_eq_append_getElem h,List.all_append,List.all_cons,List.all_nil,Bool.and_true]
 refine jF (fun j:Nat=>(((dm d G.length d.ai.length).take j).all (BF S least G t),(j:Int))) (dm d G.length d.ai.length).length (fun j hj=>?_) ?_
 ·have hm:=List.getElem_mem hj
  obtain ⟨m0,m1⟩:=Gw hm
  unfold iy
  simp only
  rw [if_pos (by omega),iO hj,Option.bind_some,at_ hj,sH,hc,bI (by omega)]
  cases ((dm d G.length d.ai.length).take j).all (BF S least G t) with
  | false=>rfl
  | true=>
   rw [if_pos rfl,Bool.true_and]
   generalize hx:(dm d G.length d.ai.length)[j]=m at m0 m1 hm
   obtain ⟨i,rfl⟩:∃i:Nat,m=(i:Int):=⟨m.toNat,by omega⟩
   unfold BF
   by_cases c:(i:Int) > (G.length:Int)
   ·rw [if_pos c,decide_eq_true c];rfl
   ·have hne:=(Gj.1 hm).2.1
    have hg:=getD_lt hG (by omega) i
    have hd':(t+S.length - G.getD i 0) % S.length<S.length:=Nat.mod_lt _ (by omega)
    rw [if_neg c,decide_eq_false c,Oi (by omega),Option.bind_some,aY (n:=(t:Int) - ((G.getD i 0:Nat):Int)) (by omega) (by omega),aY (n:=(t:Int) - ((G.getD i 0:Nat):Int)+(S.length:Int)) (by omega) (by omega),
     show (t:Int) - ((G.getD i 0:Nat):Int)+(S.length:Int)=((t+S.length - G.getD i 0:Nat):Int) by omega,uI (by omega),Option.bind_some,iO (by rw [List.length_map,List.length_range];exact hd'),Option.bind_some,List.getElem_map,List.getElem_range]
    rfl
 ·unfold iy
  simp only
  rw [if_neg (by omega),List.take_of_length_le (Nat.le_refl _)]
omit hb hS hN h1 in
theorem aar (x:aZ):Fs (fun self:FC=>fG self x):=by
 unfold fG
 have k8:∀a b,Fs (fun self:FC=>gQ self a b):=by
  intros
  unfold gQ
  exact Fs.const _
 refine Fs.ite (Fs.const _) (Fs.ite (Fs.ite (Fs.bind (Fs.const _) fun _=>k8 _ _) (k8 _ _)) (Fs.bind (Fs.loop (fun s=>?_) _) fun o=>Fs.const _))
 obtain ⟨a1,a2,a3,a4,a5,a6,a7,a8,a9,a10,a11⟩:=s
 unfold dB
 exact Fs.ite (Fs.bind (Fs.const _) fun _=>Fs.bind (Fs.const _) fun _=>Fs.bind (Fs.ite (Fs.bind (Fs.app _) fun _=>Fs.const _) (Fs.const _)) fun _=>Fs.const _) (Fs.const _)
omit hb hS hN h1 in
theorem TS (x:aZ):dL x=fG dL x:=by
 show DZ _ _=_
 rw [Qn]
 ·rfl
 ·exact aar
omit hb hS hN h1 in
theorem aeJ (x:aK) (F:List Int):Fs (fun self:FD=>bZ self x F):=by
 unfold bZ
 have k8:∀a b,Fs (fun self:FD=>eU self a b):=by
  intros
  unfold eU
  exact Fs.const _
 refine Fs.ite (Fs.const _) (Fs.ite (Fs.ite (k8 _ _) (k8 _ _)) (Fs.bind (Fs.loop (fun s=>?_) _) fun o=>Fs.const _))
 obtain ⟨a1,a2,a3,a4,a5,a6,a7,a8⟩:=s
 unfold aG
 refine Fs.ite (Fs.bind (Fs.const _) fun _=>Fs.bind (Fs.loop (fun s=>?_) _) fun _=>Fs.bind (Fs.ite (Fs.bind (Fs.const _) fun _=>Fs.bind (Fs.const _) fun _=>Fs.bind (Fs.app _) fun _=>Fs.const _) (Fs.const _)) fun _=>Fs.const _) (Fs.const _)
 obtain ⟨b1,b2⟩:=s
 unfold iy
 exact Fs.const _
omit hb hS hN h1 in
theorem run_eq (x:aK) (F:List Int):bC x F=bZ SS x F:=by
 show DZ _ _=_
 rw [Qn]
 ·rfl
 ·rintro ⟨x,F⟩
  exact aeJ x F
theorem Yc (least:Int) (fi:Bool) {B:Int} (hB:B≤20000):
 ∀(m:Nat) (G:List Nat) (bs bi:List Int) (c n:Int),(B - n).toNat≤m→0≤n→n≤B→0≤c→c≤n→(G.length:Int)≤n→(∀g∈G,g<S.length)→G.length≤d.ai.length→(c>0→bs=bi)→(bs.length:Int)≤20001→(bi.length:Int)≤20001→
  ∃r c' n' bs' bi',dL ⟨prP d d.ai.length,(d.ai.length:Int),S,least,toI G,fi,bs,c,n,B⟩=some (r,⟨prP d d.ai.length,(d.ai.length:Int),S,least,toI G,fi,bs',c',n',B⟩)∧
   bC ⟨(List.range d.ai.length).map fun k=>dm d k d.ai.length,(List.range S.length).map fun y=>csP S y S.length,least,B - n,c,bi,fi⟩ (toI G)=some (!r,⟨(List.range d.ai.length).map fun k=>dm d k d.ai.length,(List.range S.length).map fun y=>csP S y S.length,least,B - n',c',bi',fi⟩)∧
   n<n'∧n'≤B+1∧(r=true→n'≤B)∧c≤c'∧c'≤n'∧(c'>0→bs'=bi')∧(bs'.length:Int)≤20001∧(bi'.length:Int)≤20001:=by
 have hF:=hb.1
 have hnl:((List.range d.ai.length).map fun k=>dm d k d.ai.length).length=d.ai.length:=by rw [List.length_map,List.length_range]
 have hcl:((List.range S.length).map fun y=>csP S y S.length).length=S.length:=by rw [List.length_map,List.length_range]
 intro m
 induction m with
 | zero=>
  intro G bs bi c n hm h0 h1 h2 h3 h4 hG hGl h5 h6 h7
  obtain rfl:n=B:=by omega
  rw [TS,run_eq]
  unfold fG bZ
  simp only
  rw [aY (n:=n+1) (by omega) (by omega),if_pos (by omega),aY (n:=n - n - 1) (by omega) (by omega),if_pos (by omega)]
  exact ⟨false,c,n+1,bs,bi,rfl,by rw [show n - (n+1)=n - n - 1 by omega];rfl,by omega,by omega,(fun h=>by cases h),by omega,by omega,h5,h6,h7⟩
 | succ m ih=>
  intro G bs bi c n hm h0 h1' h2 h3 h4 hG hGl h5 h6 h7
  have tl:=sH G
  rw [TS,run_eq]
  unfold fG bZ
  simp only
  rw [aY (n:=n+1) (by omega) (by omega),aY (n:=B - n - 1) (by omega) (by omega)]
  by_cases cB:n+1>B
  ·rw [if_pos cB,if_pos (by omega)]
   exact ⟨false,c,n+1,bs,bi,rfl,by rw [show B - (n+1)=B - n - 1 by omega];rfl,by omega,by omega,(fun h=>by cases h),by omega,by omega,h5,h6,h7⟩
  ·rw [if_neg cB,if_neg (show ¬B - n - 1<0 by omega),hnl]
   by_cases cL:((toI G).length:Int)=(d.ai.length:Int)
   ·rw [if_pos cL,if_pos cL,aY (n:=c+1) (by omega) (by omega)]
    unfold gQ eU vP
    simp only
    rw [aY (n:=n+1) (by omega) (by omega),aY (n:=B - n - 1) (by omega) (by omega),aY (n:=c+1) (by omega) (by omega)]
    by_cases cc:c=0
    ·rw [if_pos (by omega),if_pos cc,yS (by simp only [List.length_nil];omega)]
     exact ⟨!fi,c+1,n+1,toI G,toI G,rfl,by rw [Bool.not_not,show B - (n+1)=B - n - 1 by omega],by omega,by omega,(fun _=>by omega),by omega,by omega,fun _=>rfl,by omega,by omega⟩
    ·rw [if_neg (by omega),if_neg cc]
     exact ⟨!fi,c+1,n+1,bs,bi,rfl,by rw [Bool.not_not,show B - (n+1)=B - n - 1 by omega],by omega,by omega,(fun _=>by omega),by omega,by omega,fun _=>h5 (by omega),h6,h7⟩
   ·rw [if_neg cL,if_neg cL]
    have hk:G.length<d.ai.length:=by omega
    have lp:∀(c0:Int) (bi0:List Int) (k i:Nat) (bs bi:List Int) (c n':Int),i+k=S.length→n+1≤n'→n'≤B→0≤c→c≤n'→(c>0→bs=bi)→(bs.length:Int)≤20001→(bi.length:Int)≤20001→
     ∃r c' n'' bs' bi',aP (dB dL) ((i:Int),prP d d.ai.length,(d.ai.length:Int),S,least,toI G,fi,bs,c,n',B)=some (if r=true then .inl (prP d d.ai.length,(d.ai.length:Int),S,least,toI G,fi,bs',c',n'',B) else .inr (false,⟨prP d d.ai.length,(d.ai.length:Int),S,least,toI G,fi,bs',c',n'',B⟩))∧
      aP (aG SS ⟨(List.range d.ai.length).map fun k=>dm d k d.ai.length,(List.range S.length).map fun y=>csP S y S.length,least,B - n,c0,bi0,fi⟩ (toI G)) ((i:Int),(List.range d.ai.length).map fun k=>dm d k d.ai.length,(List.range S.length).map fun y=>csP S y S.length,least,B - n',c,bi,fi)=some (if r=true then .inl ((List.range d.ai.length).map fun k=>dm d k d.ai.length,(List.range S.length).map fun y=>csP S y S.length,least,B - n'',c',bi',fi) else .inr (true,⟨(List.range d.ai.length).map fun k=>dm d k d.ai.length,(List.range S.length).map fun y=>csP S y S.length,least,B - n'',c',bi',fi⟩))∧
      n'≤n''∧n''≤B+1∧(r=true→n''≤B)∧c≤c'∧c'≤n''∧(c'>0→bs'=bi')∧(bs'.length:Int)≤20001∧(bi'.length:Int)≤20001:=by
     intro c0 bi0 k
     induction k with
     | zero=>
      intro i bs bi c n' hi g1 g2 g3 g4 g5 g6 g7
      refine ⟨true,c,n',bs,bi,aV ?_,aV ?_,by omega,by omega,fun _=>g2,by omega,g4,g5,g6,g7⟩
      ·unfold dB
       simp only
       rw [if_neg (by omega)];rfl
      ·unfold aG
       simp only
       rw [hcl,if_neg (by omega)];rfl
     | succ k ihk=>
      intro i bs bi c n' hi g1 g2 g3 g4 g5 g6 g7
      have hi':i<S.length:=by omega
      have hfit:=aeI hb hS hN h1 least fi bs c n' B hG hk hi'
      rw [aap h1 least hG hk hi'] at hfit
      have hgood:=aaq hb h1 ⟨(List.range d.ai.length).map fun k=>dm d k d.ai.length,(List.range S.length).map fun y=>csP S y S.length,least,B - n,c0,bi0,fi⟩ hcl hN least hG hk hi'
      generalize (dm d G.length d.ai.length).all (BF S least G i)=go at hfit hgood
      have hl1:((toI (G++[i])).length:Int) - 1=(G.length:Int):=by rw [sH,List.length_append,List.length_singleton];omega
      have hnr:rd ((List.range d.ai.length).map fun k=>dm d k d.ai.length) ((toI G).length:Int)=some (dm d G.length d.ai.length):=by
       rw [tl,iO (by rw [hnl];exact hk),List.getElem_map,List.getElem_range]
      have hsl:slc (toI (G++[i])) 0 (w64 (((toI (G++[i])).length:Int) - 1))=some (toI G)∧((toI (G++[i])).take ((w64 (((toI (G++[i])).length:Int) - 1)).toNat)).drop 0=toI G:=by
       rw [hl1,aY (n:=(G.length:Int)) (by omega) (by omega)]
       have ht:((toI (G++[i])).take ((G.length:Int)).toNat).drop 0=toI G:=by
        rw [List.drop_zero,show ((G.length:Int)).toNat=G.length from rfl,←Jr,List.take_left' tl]
       refine ⟨?_,ht⟩
       unfold slc
       rw [if_pos ⟨by omega,by omega,by rw [sH,List.length_append];omega⟩]
       exact congrArg some ht
      cases hgo:go with
      | false=>
       rw [hgo] at hfit hgood
       have s1:dB dL ((i:Int),prP d d.ai.length,(d.ai.length:Int),S,least,toI G,fi,bs,c,n',B)=some (.inl (((i+1:Nat):Int),prP d d.ai.length,(d.ai.length:Int),S,least,toI G,fi,bs,c,n',B)):=by
        unfold dB
        simp only
        rw [if_pos (by omega),yS (by rw [tl,List.length_singleton];omega),Option.bind_some,Jr,hfit,Option.bind_some]
        simp only [Bool.false_eq_true,if_false,Option.bind_some,if_true]
        rw [hsl.1,Option.bind_some,hsl.2,bI (by omega)]
       have s2:aG SS ⟨(List.range d.ai.length).map fun k=>dm d k d.ai.length,(List.range S.length).map fun y=>csP S y S.length,least,B - n,c0,bi0,fi⟩ (toI G) ((i:Int),(List.range d.ai.length).map fun k=>dm d k d.ai.length,(List.range S.length).map fun y=>csP S y S.length,least,B - n',c,bi,fi)=some (.inl (((i+1:Nat):Int),(List.range d.ai.length).map fun k=>dm d k d.ai.length,(List.range S.length).map fun y=>csP S y S.length,least,B - n',c,bi,fi)):=by
        unfold aG
        simp only
        rw [hcl,if_pos (by omega),hnr,Option.bind_some,hgood,Option.bind_some]
        simp only [Bool.false_eq_true,if_false,Option.bind_some]
        rw [bI (by omega)]
       obtain ⟨r,c',n'',bs',bi',q1,q2,q⟩:=ihk (i+1) bs bi c n' (by omega) g1 g2 g3 g4 g5 g6 g7
       exact ⟨r,c',n'',bs',bi',by rw [aT s1];exact q1,by rw [aT s2];exact q2,q⟩
      | true=>
       rw [hgo] at hfit hgood
       obtain ⟨r,c2,n2,bs2,bi2,p1,p2,p3,p4,p5,p6,p7,p8,p9,p10⟩:=ih (G++[i]) bs bi c n' (by omega) (by omega) g2 g3 g4 (by rw [List.length_append,List.length_singleton];omega) (fun g hg=>by
        rcases List.mem_append.1 hg with h | h
        ·exact hG g h
        ·rw [List.mem_singleton.1 h];exact hi') (by rw [List.length_append,List.length_singleton];omega) g5 g6 g7
       have s1:dB dL ((i:Int),prP d d.ai.length,(d.ai.length:Int),S,least,toI G,fi,bs,c,n',B)=if r=true then some (.inl (((i+1:Nat):Int),prP d d.ai.length,(d.ai.length:Int),S,least,toI G,fi,bs2,c2,n2,B)) else some (.inr (.inr (false,⟨prP d d.ai.length,(d.ai.length:Int),S,least,toI G,fi,bs2,c2,n2,B⟩))):=by
        unfold dB
        simp only
        rw [if_pos (by omega),yS (by rw [tl,List.length_singleton];omega),Option.bind_some,Jr,hfit,Option.bind_some,if_pos rfl,p1]
        simp only [Option.bind_some]
        rw [hsl.1,Option.bind_some,hsl.2,bI (by omega)]
       have s2:aG SS ⟨(List.range d.ai.length).map fun k=>dm d k d.ai.length,(List.range S.length).map fun y=>csP S y S.length,least,B - n,c0,bi0,fi⟩ (toI G) ((i:Int),(List.range d.ai.length).map fun k=>dm d k d.ai.length,(List.range S.length).map fun y=>csP S y S.length,least,B - n',c,bi,fi)=if r=true then some (.inl (((i+1:Nat):Int),(List.range d.ai.length).map fun k=>dm d k d.ai.length,(List.range S.length).map fun y=>csP S y S.length,least,B - n2,c2,bi2,fi)) else some (.inr (.inr (true,⟨(List.range d.ai.length).map fun k=>dm d k d.ai.length,(List.range S.length).map fun y=>csP S y S.length,least,B - n2,c2,bi2,fi⟩))):=by
        unfold aG
        simp only
        rw [hcl,if_pos (by omega),hnr,Option.bind_some,hgood,Option.bind_some,if_pos rfl,yS (by simp only [List.length_nil];omega),Option.bind_some,List.nil_append,yS (by rw [tl,List.length_singleton];omega),Option.bind_some,Jr]
        have:SS (⟨(List.range d.ai.length).map fun k=>dm d k d.ai.length,(List.range S.length).map fun y=>csP S y S.length,least,B - n',c,bi,fi⟩,toI (G++[i]))=some (!r,⟨(List.range d.ai.length).map fun k=>dm d k d.ai.length,(List.range S.length).map fun y=>csP S y S.length,least,B - n2,c2,bi2,fi⟩):=p2
        rw [this]
        simp only [Option.bind_some]
        rw [bI (by omega)]
        cases r<;>rfl
       cases r with
       | true=>
        rw [if_pos rfl] at s1 s2
        obtain ⟨r,c',n'',bs',bi',q1,q2,q3,q4,q5,q6,q7,q8,q9,q10⟩:=ihk (i+1) bs2 bi2 c2 n2 (by omega) (by omega) (p5 rfl) (by omega) p7 p8 p9 p10
        exact ⟨r,c',n'',bs',bi',by rw [aT s1];exact q1,by rw [aT s2];exact q2,by omega,q4,q5,by omega,q7,q8,q9,q10⟩
       | false=>
        rw [if_neg (by decide)] at s1 s2
        exact ⟨false,c2,n2,bs2,bi2,aV s1,aV s2,by omega,p4,(fun h=>by cases h),p6,p7,p8,p9,p10⟩
    obtain ⟨r,c',n'',bs',bi',q1,q2,q3,q4,q5,q6,q7,q8,q9,q10⟩:=lp c bi S.length 0 bs bi c (n+1) (by omega) (by omega) (by omega) h2 (by omega) h5 h6 h7
    refine ⟨r,c',n'',bs',bi',?_,?_,by omega,q4,q5,q6,q7,q8,q9,q10⟩
    ·have q1:aP (dB dL) (0,prP d d.ai.length,(d.ai.length:Int),S,least,toI G,fi,bs,c,n+1,B)=_:=q1
     rw [q1]
     cases r<;>rfl
    ·rw [show B - n - 1=B - (n+1) by omega]
     have q2:aP (aG SS ⟨(List.range d.ai.length).map fun k=>dm d k d.ai.length,(List.range S.length).map fun y=>csP S y S.length,least,B - n,c,bi,fi⟩ (toI G)) (0,(List.range d.ai.length).map fun k=>dm d k d.ai.length,(List.range S.length).map fun y=>csP S y S.length,least,B - (n+1),c,bi,fi)=_:=q2
     rw [q2]
     cases r<;>rfl
end
theorem PT (S:List aF) (hl:S.length≤1048576):∃v,lN S=some v∧iw S=some v∧(v=true→(∀x∈S,okV x)∧S.length≤8∧1≤S.length):=by
 unfold lN iw
 rw [TQ (f:=oP S) S J8 hl (fun i hi=>by
  unfold oP
  rw [if_pos (by omega),iO hi,Option.bind_some,agA,Option.bind_some]) (by unfold oP;rw [if_neg (by omega)])]
 rw [kC,aag S hl,Bool.decide_and]
 cases ha:S.all J8 with
 | true=>
  refine ⟨decide (1≤(S.length:Int))&&decide ((S.length:Int)≤8),rfl,?_,fun h=>?_⟩
  ·cases decide (1≤(S.length:Int))<;>cases decide ((S.length:Int)≤8)<;>rfl
  ·simp only [Bool.and_eq_true,decide_eq_true_eq] at h
   exact ⟨fun x hx=>Xc (List.all_eq_true.1 ha x hx),by omega,by omega⟩
 | false=>
  refine ⟨false,rfl,?_,(fun h=>by cases h)⟩
  cases decide (1≤(S.length:Int))<;>cases decide ((S.length:Int)≤8)<;>rfl
theorem Xg {d:aB} (hb:uA d):bR d:=by
 obtain ⟨_,_,_,⟨hf,hF⟩⟩:=hb
 exact ⟨hf,fun f h=>(hF f h).2.1⟩
theorem Yd {d:aB} (hb:uA d) {S:List aF} (hl:S.length≤1048576) (least B:Int) (fi:Bool):
 ∃code,∃(x:Option aZ) (y:Option aK),yQ d S least B fi=some (x,code)∧je d S least B fi=some (y,code)∧
  ((code≠0)∨(code=0∧∃a b,x=some a∧y=some b∧a.count=b.found∧0≤a.count∧(a.count>0→a.best=b.first)∧(a.best.length:Int)≤20001)):=by
 obtain ⟨v,v1,v2⟩:=Rq d hb
 obtain ⟨u,u1,u2,u3⟩:=PT S hl
 unfold yQ je
 rw [v1,v2,Option.bind_some,Option.bind_some]
 cases v with
 | false=>exact ⟨1,none,none,rfl,rfl,.inl (by decide)⟩
 | true=>
  rw [if_pos rfl,if_pos rfl,u1,u2,Option.bind_some,Option.bind_some]
  cases u with
  | false=>exact ⟨1,none,none,rfl,rfl,.inl (by decide)⟩
  | true=>
   obtain ⟨w1,w2,w3⟩:=u3 rfl
   simp only [Bool.not_true,Option.bind_some,Bool.false_eq_true,if_false,WV,kC]
   by_cases c:1≤B∧B≤20000
   ·rw [decide_eq_true c]
    by_cases c2:0≤least∧least≤200
    ·rw [decide_eq_true c2]
     simp only [if_true,Bool.not_true,Option.bind_some,Bool.false_eq_true,if_false]
     rw [acO (Xg hb),J9 (Xg hb),aeH w1 w2 w3,Option.bind_some,Option.bind_some,Option.bind_some]
     obtain ⟨r,c',n',bs',bi',p1,p2,p3,p4,p5,p6,p7,p8,p9,p10⟩:=Yc (Xg hb) w1 w2 w3 least fi c.2 B.toNat [] [] [] 0 0 (by omega) (by omega) (by omega) (by omega) (by omega) (by simp) (by simp) (by simp) (fun _=>rfl) (by simp) (by simp)
     rw [Int.sub_zero] at p2
     have p1:dL ⟨prP d d.ai.length,(d.ai.length:Int),S,least,[],fi,[],0,0,B⟩=_:=p1
     have p2:bC ⟨(List.range d.ai.length).map fun k=>dm d k d.ai.length,(List.range S.length).map fun y=>csP S y S.length,least,B,0,[],fi⟩ []=_:=p2
     rw [p1,p2,Option.bind_some,Option.bind_some]
     by_cases cn:n'>B
     ·exact ⟨5,none,none,by simp only;rw [if_pos cn],by simp only;rw [if_pos (by omega)],.inl (by decide)⟩
     ·exact ⟨0,_,_,by simp only;rw [if_neg cn],by simp only;rw [if_neg (by omega)],.inr ⟨rfl,_,_,rfl,rfl,rfl,p6,p8,p9⟩⟩
    ·rw [decide_eq_false c2]
     exact ⟨2,none,none,rfl,rfl,.inl (by decide)⟩
   ·rw [decide_eq_false c]
    exact ⟨2,none,none,rfl,rfl,.inl (by decide)⟩
theorem aas {k:Nat} (hk:k<10):∃(tb:List (List Int)) (row:List Int) (b:Int) (nm:ByteArray),mY=some tb∧rd tb (k:Int)=some row∧rd row 0=some b∧0≤b∧b≤100∧rd nms (k:Int)=some nm∧dZ nm=some (b,true):=by
 have hc:k=0∨k=1∨k=2∨k=3∨k=4∨k=5∨k=6∨k=7∨k=8∨k=9:=by omega
 have key:∀{tb:List (List Int)} {row:List Int} {b:Int} {nm:ByteArray},mY=some tb→rd tb (k:Int)=some row→rd row 0=some b→0≤b→b≤100→rd nms (k:Int)=some nm→dZ nm=some (b,true)→
  ∃(tb:List (List Int)) (row:List Int) (b:Int) (nm:ByteArray),mY=some tb∧rd tb (k:Int)=some row∧rd row 0=some b∧0≤b∧b≤100∧rd nms (k:Int)=some nm∧dZ nm=some (b,true):=
  fun h1 h2 h3 h4 h5 h6 h7=>⟨_,_,_,_,h1,h2,h3,h4,h5,h6,h7⟩
 unfold dZ nK at key ⊢
 rcases hc with rfl | rfl | rfl | rfl | rfl | rfl | rfl | rfl | rfl | rfl
 ·exact key (nm:=⟨#[97,115,104]⟩) (b:=20) rfl rfl rfl (by decide) (by decide) rfl (by rw [if_pos rfl];rfl)
 ·exact key (nm:=⟨#[98,101,101,99,104]⟩) (b:=35) rfl rfl rfl (by decide) (by decide) rfl (by rw [if_neg (bn (by decide)),if_pos rfl];rfl)
 ·exact key (nm:=⟨#[98,105,114,99,104]⟩) (b:=15) rfl rfl rfl (by decide) (by decide) rfl (by rw [if_neg (bn (by decide)),if_neg (bn (by decide)),if_pos rfl];rfl)
 ·exact key (nm:=⟨#[99,104,101,114,114,121]⟩) (b:=50) rfl rfl rfl (by decide) (by decide) rfl (by rw [if_neg (bn (by decide)),if_neg (bn (by decide)),if_neg (bn (by decide)),if_pos rfl];rfl)
 ·exact key (nm:=⟨#[101,98,111,110,121]⟩) (b:=95) rfl rfl rfl (by decide) (by decide) rfl (by rw [if_neg (bn (by decide)),if_neg (bn (by decide)),if_neg (bn (by decide)),if_neg (bn (by decide)),if_pos rfl];rfl)
 ·exact key (nm:=⟨#[104,111,108,108,121]⟩) (b:=5) rfl rfl rfl (by decide) (by decide) rfl (by rw [if_neg (bn (by decide)),if_neg (bn (by decide)),if_neg (bn (by decide)),if_neg (bn (by decide)),if_neg (bn (by decide)),if_pos rfl];rfl)
 ·exact key (nm:=⟨#[109,97,112,108,101]⟩) (b:=10) rfl rfl rfl (by decide) (by decide) rfl (by rw [if_neg (bn (by decide)),if_neg (bn (by decide)),if_neg (bn (by decide)),if_neg (bn (by decide)),if_neg (bn (by decide)),if_neg (bn (by decide)),if_pos rfl];rfl)
 ·exact key (nm:=⟨#[111,97,107]⟩) (b:=40) rfl rfl rfl (by decide) (by decide) rfl (by rw [if_neg (bn (by decide)),if_neg (bn (by decide)),if_neg (bn (by decide)),if_neg (bn (by decide)),if_neg (bn (by decide)),if_neg (bn (by decide)),if_neg (bn (by decide)),if_pos rfl];rfl)
 ·exact key (nm:=⟨#[114,111,115,101,119,111,111,100]⟩) (b:=80) rfl rfl rfl (by decide) (by decide) rfl (by rw [if_neg (bn (by decide)),if_neg (bn (by decide)),if_neg (bn (by decide)),if_neg (bn (by decide)),if_neg (bn (by decide)),if_neg (bn (by decide)),if_neg (bn (by decide)),if_neg (bn (by decide)),if_pos rfl];rfl)
 ·exact key (nm:=⟨#[119,97,108,110,117,116]⟩) (b:=70) rfl rfl rfl (by decide) (by decide) rfl (by rw [if_neg (bn (by decide)),if_neg (bn (by decide)),if_neg (bn (by decide)),if_neg (bn (by decide)),if_neg (bn (by decide)),if_neg (bn (by decide)),if_neg (bn (by decide)),if_neg (bn (by decide)),if_neg (bn (by decide)),if_pos rfl];rfl)
theorem U2 {c:List Int} (hc:∀x∈c,0≤x∧x≤255) {n:Int} (hn:n≤900000000) {s:aC} (h:Sr c n s):∃v s',wL s=some (v,s')∧J8 v=true∧Sr c (n+8) s':=by
 obtain ⟨k,s1,e1,k0,k1,h1⟩:=lY hc (by omega) h 10
 have k1:=k1 (by omega)
 obtain ⟨kk,rfl⟩:∃kk:Nat,k=(kk:Int):=⟨k.toNat,by omega⟩
 obtain ⟨tb,row,b,nm,t1,t2,t3,t4,t5,t6,t7⟩:=aas (k:=kk) (by omega)
 obtain ⟨v,s2,e2,v0,v1,h2⟩:=lY hc (by omega) h1 21
 have v1:=v1 (by omega)
 obtain ⟨x,s3,e3,x0,x1,h3⟩:=lY hc (by omega) h2 180
 have x1:=x1 (by omega)
 obtain ⟨y,s4,e4,y0,h4⟩:=N9 hc (by omega) h3 [x,x,0,90,45] (by simp)
 have hN:rQ=some nms:=rfl
 unfold wL
 rw [e1,Option.bind_some,t1,Option.bind_some,t2,Option.bind_some,t3,Option.bind_some,e2,Option.bind_some,hN,Option.bind_some,t6,Option.bind_some,aY (n:=b+v) (by omega) (by omega),aY (n:=b+v - 10) (by omega) (by omega),aal,Option.bind_some,adw,Option.bind_some,e3,Option.bind_some,e4,Option.bind_some]
 refine ⟨_,_,rfl,?_,h4.mono (by omega)⟩
 have hy:0≤y∧y≤179:=by
  simp only [List.mem_cons,List.not_mem_nil,or_false] at y0
  omega
 have e:=aaf ⟨nm,min2 100 (max2 0 (b+v - 10)),y⟩
 generalize hm:min2 100 (max2 0 (b+v - 10))=m at e ⊢
 have hm2:0≤m∧m≤100∧b - 15≤m∧m≤b+15:=by
  rcases tV 0 (b+v - 10) with q | q<;>rcases yl 100 (max2 0 (b+v - 10)) with p | p<;>omega
 unfold jC at e
 simp only [t7,Option.bind_some,kC,if_true] at e
 rw [aY (n:=m - b) (by omega) (by omega),decide_eq_true (show 0≤m∧m≤100 by omega),decide_eq_true (show -15≤m - b∧m - b≤15 by omega),decide_eq_true hy] at e
 simpa using e.symm
theorem Ye {c:List Int} (hc:∀x∈c,0≤x∧x≤255):∃S,uN c=some S∧(∀x∈S,J8 x=true)∧1≤S.length∧S.length≤3:=by
 obtain ⟨s,h1,h2⟩:=W9 c
 unfold uN qK
 rw [h1,Option.bind_some]
 obtain ⟨k,s1,e1,k0,k1,h3⟩:=lY hc (by omega) h2 3
 have k1:=k1 (by omega)
 rw [e1,Option.bind_some]
 simp only
 rw [aY (n:=1+k) (by omega) (by omega)]
 have lp:∀(m:Nat) (s:aC) (n:Int) (out:List aF),out.length+m≤3→n≤100* (10 - m)→Sr c n s→(∀x∈out,J8 x=true)→
  ∃a b e out',aP jh ((m:Int),s.code,s.at_,s.seed,out)=some (a,b,e,out')∧(∀x∈out',J8 x=true)∧out'.length=out.length+m:=by
  intro m
  induction m with
  | zero=>
   intro s n out _ _ _ h
   refine ⟨s.code,s.at_,s.seed,out,aV ?_,h,rfl⟩
   unfold jh
   simp only
   rw [if_neg (by omega)]
  | succ m ih=>
   intro s n out hm hn hs h
   obtain ⟨v,s',e,hv,hs'⟩:=U2 hc (by omega) hs
   have st:jh (((m+1:Nat):Int),s.code,s.at_,s.seed,out)=some (.inl ((m:Int),s'.code,s'.at_,s'.seed,out++[v])):=by
    unfold jh
    simp only
    rw [if_pos (by omega),e,Option.bind_some,yS (by rw [List.length_singleton];omega),Option.bind_some,aY (n:=((m+1:Nat):Int) - 1) (by omega) (by omega)]
    rw [show ((m+1:Nat):Int) - 1=(m:Int) by omega]
   rw [aT st]
   obtain ⟨a,b,e',out',q1,q2,q3⟩:=ih s' (n+8) (out++[v]) (by rw [List.length_append,List.length_singleton];omega) (by omega) hs' (fun x hx=>by
    rcases List.mem_append.1 hx with hx | hx
    ·exact h x hx
    ·rw [List.mem_singleton.1 hx];exact hv)
   exact ⟨a,b,e',out',q1,q2,by rw [q3,List.length_append,List.length_singleton];omega⟩
 obtain ⟨kk,rfl⟩:∃kk:Nat,k=(kk:Int):=⟨k.toNat,by omega⟩
 obtain ⟨a,b,e',out',q1,q2,q3⟩:=lp (kk+1) s1 (0+2) [] (by simp only [List.length_nil];omega) (by omega) h3 (by simp)
 rw [show 1+(kk:Int)=((kk+1:Nat):Int) by omega,q1]
 exact ⟨out',rfl,q2,by rw [q3];omega,by rw [q3];simp only [List.length_nil];omega⟩
section
variable {d:aB} (hb:bR d) {S:List aF} (hN:S.length≤8) (h1:1≤S.length) (least:Int)
abbrev nrL (d:aB):List (List Int):=(List.range d.ai.length).map fun k=>dm d k d.ai.length
abbrev csL (S:List aF):List Int:=(List.range S.length).map fun y=>csP S y S.length
abbrev sT (d:aB) (S:List aF) (least L c:Int) (b:List Int) (one:Bool):aK:=⟨nrL d,csL S,least,L,c,b,one⟩
def gp (d:aB) (S:List aF) (least:Int) (G:List Nat):Prop:=∀k (h:k<G.length),G[k] <S.length∧(dm d k d.ai.length).all (BF S least (G.take k) G[k])=true
theorem aeK:gp d S least []:=fun k h=>absurd h (by simp)
theorem acP {G:List Nat} {i:Nat} (hG:gp d S least G) (hi:i<S.length) (hg:(dm d G.length d.ai.length).all (BF S least G i)=true):gp d S least (G++[i]):=by
 intro t h
 by_cases c:t<G.length
 ·rw [List.getElem_append_left c,List.take_append_of_le_length (by omega)]
  exact hG t c
 ·have:t=G.length:=by
   rw [List.length_append,List.length_singleton] at h
   omega
  subst this
  rw [List.getElem_append_right (by omega),List.take_left' rfl]
  exact ⟨by simpa using hi,by simpa using hg⟩
theorem Xh {G:List Nat} (hG:gp d S least G):∀g∈G,g<S.length:=by
 intro g hg
 obtain ⟨t,ht,rfl⟩:=List.getElem_of_mem hg
 exact (hG t ht).1
theorem EH:(nrL d).length=d.ai.length:=by rw [List.length_map,List.length_range]
theorem BZ:(csL S).length=S.length:=by rw [List.length_map,List.length_range]
include hb hN h1
theorem Xi {s0:aK} (hc:s0.bT.length=S.length) {G:List Nat} (hG:∀g∈G,g<S.length) (hk:G.length<d.ai.length) {i:Nat} (hi:i<S.length) {L c:Int} {b:List Int} {one:Bool}:
 ((dm d G.length d.ai.length).all (BF S least G i)=false∧aG SS s0 (toI G) ((i:Int),nrL d,csL S,least,L,c,b,one)=some (.inl (((i+1:Nat):Int),nrL d,csL S,least,L,c,b,one)))∨
 ((dm d G.length d.ai.length).all (BF S least G i)=true∧∀r L2 c2 b2,bC (sT d S least L c b one) (toI (G++[i]))=some (r,sT d S least L2 c2 b2 one)→
   aG SS s0 (toI G) ((i:Int),nrL d,csL S,least,L,c,b,one)=if r=true then some (.inr (.inr (true,sT d S least L2 c2 b2 one))) else some (.inl (((i+1:Nat):Int),nrL d,csL S,least,L2,c2,b2,one))):=by
 have hF:=hb.1
 have tl:=sH G
 have hgood:=aaq hb h1 s0 hc hN least hG hk hi
 have hnr:rd (nrL d) ((toI G).length:Int)=some (dm d G.length d.ai.length):=by
  rw [tl,iO (by rw [EH];exact hk),List.getElem_map,List.getElem_range]
 cases hgo:(dm d G.length d.ai.length).all (BF S least G i) with
 | false=>
  left
  refine ⟨rfl,?_⟩
  rw [hgo] at hgood
  unfold aG
  simp only
  rw [hc,if_pos (by omega),hnr,Option.bind_some,hgood,Option.bind_some]
  simp only [Bool.false_eq_true,if_false,Option.bind_some]
  rw [bI (by omega)]
 | true=>
  right
  refine ⟨rfl,fun r L2 c2 b2 p=>?_⟩
  rw [hgo] at hgood
  unfold aG
  simp only
  rw [hc,if_pos (by omega),hnr,Option.bind_some,hgood,Option.bind_some,if_pos rfl,yS (by simp only [List.length_nil];omega),Option.bind_some,List.nil_append,yS (by rw [tl,List.length_singleton];omega),Option.bind_some,Jr]
  have p':SS (⟨nrL d,csL S,least,L,c,b,one⟩,toI (G++[i]))=some (r,sT d S least L2 c2 b2 one):=p
  rw [p']
  simp only [Option.bind_some]
  rw [bI (by omega)]
omit hb hN h1 in
theorem send {s0:aK} (hc:s0.bT.length=S.length) {G:List Nat} {i:Nat} (hi:i=S.length) {L c:Int} {b:List Int} {one:Bool}:
 aG SS s0 (toI G) ((i:Int),nrL d,csL S,least,L,c,b,one)=some (.inr (.inl (nrL d,csL S,least,L,c,b,one))):=by
 unfold aG
 simp only
 rw [hc,if_neg (by omega)]
omit hb hN h1 in
theorem DK {G:List Nat} {c:Int} {b:List Int} {one:Bool}:bC (sT d S least 0 c b one) (toI G)=some (true,sT d S least (-1) c b one):=by
 rw [run_eq]
 unfold bZ
 simp only
 rw [aY (n:=0 - 1) (by omega) (by omega),if_pos (by omega)]
 rfl
omit hb hN h1 in
theorem Ko {G:List Nat} {L c:Int} {b:List Int} {one:Bool} (h:1≤L) (h2:L≤20000) (c0:0≤c) (c1:c≤20000) (hG:G.length=d.ai.length):
 bC (sT d S least L c b one) (toI G)=some (one,sT d S least (L - 1) (c+1) (if c=0 then toI G else b) one):=by
 rw [run_eq]
 unfold bZ eU
 simp only
 rw [aY (n:=L - 1) (by omega) (by omega),if_neg (by omega),if_pos (by rw [sH,EH];omega),aY (n:=c+1) (by omega) (by omega)]
 split<;>rfl
omit hb hN h1 in
theorem Ry {G:List Nat} {L c:Int} {b:List Int} {one:Bool} (h:1≤L) (h2:L≤20000) (hG:G.length≠d.ai.length) {L' c':Int} {b':List Int}
 (e:aP (aG SS (sT d S least L c b one) (toI G)) (((0:Nat):Int),nrL d,csL S,least,L - 1,c,b,one)=some (.inl (nrL d,csL S,least,L',c',b',one))):
 bC (sT d S least L c b one) (toI G)=some (false,sT d S least L' c' b' one):=by
 rw [run_eq]
 unfold bZ
 simp only
 rw [aY (n:=L - 1) (by omega) (by omega),if_neg (by omega),if_neg (by rw [sH,EH];omega)]
 have e:aP (aG SS (sT d S least L c b one) (toI G)) (0,nrL d,csL S,least,L - 1,c,b,one)=_:=e
 rw [e]
 rfl
omit hb hN h1 in
theorem Kq {G:List Nat} {L c:Int} {b:List Int} {one:Bool} (h:1≤L) (h2:L≤20000) (hG:G.length≠d.ai.length) {x:Bool×aK}
 (e:aP (aG SS (sT d S least L c b one) (toI G)) (((0:Nat):Int),nrL d,csL S,least,L - 1,c,b,one)=some (.inr x)):
 bC (sT d S least L c b one) (toI G)=some x:=by
 rw [run_eq]
 unfold bZ
 simp only
 rw [aY (n:=L - 1) (by omega) (by omega),if_neg (by omega),if_neg (by rw [sH,EH];omega)]
 have e:aP (aG SS (sT d S least L c b one) (toI G)) (0,nrL d,csL S,least,L - 1,c,b,one)=_:=e
 rw [e]
 rfl
omit hb hN h1 in
def RC (d:aB) (S:List aF) (least:Int) (m:Nat):Prop:=∀(G:List Nat) (bi:List Int) (c L:Int),L.toNat≤m→0≤L→0≤c→c+L≤20000→(∀g∈G,g<S.length)→G.length≤d.ai.length→
 ∃r c' L' bi',bC (sT d S least L c bi false) (toI G)=some (r,sT d S least L' c' bi' false)∧c≤c'∧c'+L'≤20000∧L'<L∧-1≤L'∧(r=false→0≤L')∧(r=true→L'<0)
theorem PU {m:Nat} (ih:RC d S least m) {s0:aK} (hc:s0.bT.length=S.length) {G:List Nat} (hG:∀g∈G,g<S.length) (hk:G.length<d.ai.length):∀(k i:Nat) (bi:List Int) (c L:Int),i+k=S.length→L.toNat≤m→0≤L→0≤c→c+L≤20000→
 ∃r c' L' bi',aP (aG SS s0 (toI G)) ((i:Int),nrL d,csL S,least,L,c,bi,false)=some (if r=true then .inr (true,sT d S least L' c' bi' false) else .inl (nrL d,csL S,least,L',c',bi',false))∧c≤c'∧c'+L'≤20000∧L'≤L∧-1≤L'∧(r=false→0≤L')∧(r=true→L'<0):=by
 intro k
 induction k with
 | zero=>
  intro i bi c L hi g1 g2 g4 g5
  exact ⟨false,c,L,bi,aV (send least hc (by omega)),by omega,g5,by omega,by omega,fun _=>g2,fun h=>by cases h⟩
 | succ k ihk=>
  intro i bi c L hi g1 g2 g4 g5
  have hi':i<S.length:=by omega
  rcases Xi hb hN h1 least hc hG hk hi' (L:=L) (c:=c) (b:=bi) (one:=false) with ⟨_,s⟩ | ⟨_,s⟩
  ·rw [aT s]
   exact ihk (i+1) bi c L (by omega) g1 g2 g4 g5
  ·obtain ⟨r,c2,L2,bi2,p1,p2,p3,p4,p5,p6,p7⟩:=ih (G++[i]) bi c L g1 g2 g4 g5 (fun g hg=>by
    rcases List.mem_append.1 hg with h | h
    ·exact hG g h
    ·rw [List.mem_singleton.1 h];exact hi') (by rw [List.length_append,List.length_singleton];omega)
   have s:=s _ _ _ _ p1
   cases r with
   | true=>
    rw [if_pos rfl] at s
    exact ⟨true,c2,L2,bi2,aV s,p2,p3,by omega,p5,(fun h=>by cases h),p7⟩
   | false=>
    rw [if_neg (by decide)] at s
    have p6:=p6 rfl
    obtain ⟨r,c',L',bi',q1,q2,q3,q4,q5,q6,q7⟩:=ihk (i+1) bi2 c2 L2 (by omega) (by omega) p6 (by omega) p3
    exact ⟨r,c',L',bi',by rw [aT s];exact q1,by omega,q3,by omega,q5,q6,q7⟩
theorem aat:∀m,RC d S least m:=by
 intro m
 induction m with
 | zero=>
  intro G bi c L h0 g1 g3 g4 hG hGl
  obtain rfl:L=0:=by omega
  exact ⟨true,c,-1,bi,DK least,by omega,by omega,by omega,by omega,(fun h=>by cases h),fun _=>by omega⟩
 | succ m ih=>
  intro G bi c L h0 g1 g3 g4 hG hGl
  by_cases cL:L=0
  ·subst cL
   exact ⟨true,c,-1,bi,DK least,by omega,by omega,by omega,by omega,(fun h=>by cases h),fun _=>by omega⟩
  by_cases cF:G.length=d.ai.length
  ·exact ⟨false,c+1,L - 1,_,Ko least (by omega) (by omega) g3 (by omega) cF,by omega,by omega,by omega,by omega,(fun _=>by omega),fun h=>by cases h⟩
  obtain ⟨r,c',L',bi',q1,q2,q3,q4,q5,q6,q7⟩:=PU hb hN h1 least ih (s0:=sT d S least L c bi false) BZ hG (by omega) S.length 0 bi c (L - 1) (by omega) (by omega) (by omega) g3 (by omega)
  cases r with
  | true=>exact ⟨true,c',L',bi',Kq least (by omega) (by omega) cF q1,q2,q3,by omega,q5,q6,q7⟩
  | false=>exact ⟨false,c',L',bi',Ry least (by omega) (by omega) cF q1,q2,q3,by omega,q5,q6,q7⟩
omit hb hN h1 in
def RD (d:aB) (S:List aF) (least:Int) (m:Nat):Prop:=∀(G:List Nat) (L:Int),L.toNat≤m→0≤L→L≤20000→gp d S least G→G.length≤d.ai.length→
 ∃r1 r0 s1 s0,bC (sT d S least L 0 [] true) (toI G)=some (r1,s1)∧bC (sT d S least L 0 [] false) (toI G)=some (r0,s0)∧
  ((r1=true∧r0=true∧s1=sT d S least (-1) 0 [] true∧s0=sT d S least (-1) 0 [] false)∨
   (∃L',r1=false∧r0=false∧s1=sT d S least L' 0 [] true∧s0=sT d S least L' 0 [] false∧0≤L'∧L'<L)∨
   (∃G L' L'' c b,r1=true∧s1=sT d S least L' 1 (toI G) true∧0≤L'∧gp d S least G∧G.length=d.ai.length∧s0=sT d S least L'' c b false∧1≤c∧c+L''≤20000∧L''<L∧-1≤L''∧(r0=false→0≤L'')∧(r0=true→L''<0)))
theorem aau:∀m,RD d S least m:=by
 intro m
 induction m with
 | zero=>
  intro G L h0 g1 g2 hg hGl
  obtain rfl:L=0:=by omega
  exact ⟨_,_,_,_,DK least,DK least,.inl ⟨rfl,rfl,rfl,rfl⟩⟩
 | succ m ih=>
  intro G L h0 g1 g2 hg hGl
  by_cases cL:L=0
  ·subst cL
   exact ⟨_,_,_,_,DK least,DK least,.inl ⟨rfl,rfl,rfl,rfl⟩⟩
  by_cases cF:G.length=d.ai.length
  ·refine ⟨_,_,_,_,Ko least (by omega) (by omega) (by omega) (by omega) cF,Ko least (by omega) (by omega) (by omega) (by omega) cF,.inr (.inr ⟨G,L - 1,L - 1,1,toI G,rfl,rfl,by omega,hg,cF,rfl,by omega,by omega,by omega,by omega,(fun _=>by omega),fun h=>by cases h⟩)⟩
  have hk:G.length<d.ai.length:=by omega
  have hG:=Xh least hg
  have lp:∀(k i:Nat) (L1:Int),i+k=S.length→L1.toNat≤m→0≤L1→L1≤20000→
   (aP (aG SS (sT d S least L 0 [] true) (toI G)) ((i:Int),nrL d,csL S,least,L1,0,[],true)=some (.inr (true,sT d S least (-1) 0 [] true))∧aP (aG SS (sT d S least L 0 [] false) (toI G)) ((i:Int),nrL d,csL S,least,L1,0,[],false)=some (.inr (true,sT d S least (-1) 0 [] false)))∨
   (∃L',aP (aG SS (sT d S least L 0 [] true) (toI G)) ((i:Int),nrL d,csL S,least,L1,0,[],true)=some (.inl (nrL d,csL S,least,L',0,[],true))∧aP (aG SS (sT d S least L 0 [] false) (toI G)) ((i:Int),nrL d,csL S,least,L1,0,[],false)=some (.inl (nrL d,csL S,least,L',0,[],false))∧0≤L'∧L'≤L1)∨
   (∃G' L' L'' c b r,aP (aG SS (sT d S least L 0 [] true) (toI G)) ((i:Int),nrL d,csL S,least,L1,0,[],true)=some (.inr (true,sT d S least L' 1 (toI G') true))∧aP (aG SS (sT d S least L 0 [] false) (toI G)) ((i:Int),nrL d,csL S,least,L1,0,[],false)=some (if r=true then .inr (true,sT d S least L'' c b false) else .inl (nrL d,csL S,least,L'',c,b,false))∧
     0≤L'∧gp d S least G'∧G'.length=d.ai.length∧1≤c∧c+L''≤20000∧L''≤L1∧-1≤L''∧(r=false→0≤L'')∧(r=true→L''<0)):=by
   intro k
   induction k with
   | zero=>
    intro i L1 hi g1 g2 g4
    exact .inr (.inl ⟨L1,aV (send least BZ (by omega)),aV (send least BZ (by omega)),g2,by omega⟩)
   | succ k ihk=>
    intro i L1 hi g1 g2 g4
    have hi':i<S.length:=by omega
    rcases Xi hb hN h1 least (s0:=sT d S least L 0 [] true) BZ hG hk hi' (L:=L1) (c:=0) (b:=[]) (one:=true) with ⟨e1,t1⟩ | ⟨e1,t1⟩
    ·rcases Xi hb hN h1 least (s0:=sT d S least L 0 [] false) BZ hG hk hi' (L:=L1) (c:=0) (b:=[]) (one:=false) with ⟨_,t0⟩ | ⟨e0,_⟩
     ·rw [aT t1,aT t0]
      exact ihk (i+1) L1 (by omega) g1 g2 g4
     ·rw [e1] at e0;cases e0
    rcases Xi hb hN h1 least (s0:=sT d S least L 0 [] false) BZ hG hk hi' (L:=L1) (c:=0) (b:=[]) (one:=false) with ⟨e0,_⟩ | ⟨_,t0⟩
    ·rw [e1] at e0;cases e0
    obtain ⟨r1,r0,s1,s0,p1,p0,hc⟩:=ih (G++[i]) L1 g1 g2 g4 (acP least hg hi' e1) (by rw [List.length_append,List.length_singleton];omega)
    rcases hc with ⟨rfl,rfl,rfl,rfl⟩ | ⟨L',rfl,rfl,rfl,rfl,k1,k2⟩ | ⟨G',L',L'',c,b,rfl,rfl,k1,k2,k3,rfl,k4,k5,k6,k7,k8,k9⟩
    ·exact .inl ⟨aV (t1 _ _ _ _ p1),aV (t0 _ _ _ _ p0)⟩
    ·have t1:=t1 _ _ _ _ p1
     have t0:=t0 _ _ _ _ p0
     rw [if_neg (by decide)] at t1 t0
     rw [aT t1,aT t0]
     rcases ihk (i+1) L' (by omega) (by omega) k1 (by omega) with h | ⟨L2,h1,h2,h3,h4⟩ | ⟨G,L2,L3,c,b,r,h1,h2,h3,h4,h5,h6,h7,h8,h9⟩
     ·exact .inl h
     ·exact .inr (.inl ⟨L2,h1,h2,h3,by omega⟩)
     ·exact .inr (.inr ⟨G,L2,L3,c,b,r,h1,h2,h3,h4,h5,h6,h7,by omega,h9⟩)
    ·have t1:=t1 _ _ _ _ p1
     have t0:=t0 _ _ _ _ p0
     rw [if_pos rfl] at t1
     cases r0 with
     | true=>
      rw [if_pos rfl] at t0
      exact .inr (.inr ⟨G',L',L'',c,b,true,aV t1,aV t0,k1,k2,k3,k4,k5,by omega,k7,k8,k9⟩)
     | false=>
      rw [if_neg (by decide)] at t0
      have k8:=k8 rfl
      obtain ⟨r,c',L3,b',q1,q2,q3,q4,q5,q6,q7⟩:=PU hb hN h1 least (aat hb hN h1 least m) (s0:=sT d S least L 0 [] false) BZ hG hk k (i+1) b c L'' (by omega) (by omega) k8 (by omega) k5
      exact .inr (.inr ⟨G',L',L3,c',b',r,aV t1,by rw [aT t0];exact q1,k1,k2,k3,by omega,q3,by omega,q5,q6,q7⟩)
  rcases lp S.length 0 (L - 1) (by omega) (by omega) (by omega) (by omega) with ⟨e1,e0⟩ | ⟨L',e1,e0,k1,k2⟩ | ⟨G',L',L'',c,b,r,e1,e0,k1,k2,k3,k4,k5,k6,k7,k8,k9⟩
  ·exact ⟨_,_,_,_,Kq least (by omega) (by omega) cF e1,Kq least (by omega) (by omega) cF e0,.inl ⟨rfl,rfl,rfl,rfl⟩⟩
  ·exact ⟨_,_,_,_,Ry least (by omega) (by omega) cF e1,Ry least (by omega) (by omega) cF e0,.inr (.inl ⟨L',rfl,rfl,rfl,rfl,k1,by omega⟩)⟩
  ·cases r with
   | true=>exact ⟨_,_,_,_,Kq least (by omega) (by omega) cF e1,Kq least (by omega) (by omega) cF e0,.inr (.inr ⟨G',L',L'',c,b,rfl,rfl,k1,k2,k3,rfl,k4,k5,by omega,k7,k8,k9⟩)⟩
   | false=>exact ⟨_,_,_,_,Kq least (by omega) (by omega) cF e1,Ry least (by omega) (by omega) cF e0,.inr (.inr ⟨G',L',L'',c,b,rfl,rfl,k1,k2,k3,rfl,k4,k5,by omega,k7,k8,k9⟩)⟩
end
theorem Yf (a b:Int):EG a b=EG b a:=by unfold EG;rw [PE]
theorem aav (a b:aF):ctP a b=ctP b a:=by unfold ctP;rw [PE,Yf]
theorem aaw (S:List aF) (a b:Nat):∀n,cmP S a b n=cmP S b a n:=by
 intro n
 unfold cmP
 congr 1
 funext i
 exact aav _ _
section
variable {d:aB} (hb:bR d) {S:List aF} (hS:∀x∈S,okV x) (hN:S.length≤8) (h1:1≤S.length) {least:Int}
include hb h1
omit hb in
theorem acQ {G:List Nat} (hG:gp d S least G) (hl:G.length=d.ai.length) {t m:Nat} (ht:t<G.length) (hm:(m:Int)∈dm d t d.ai.length):
 csP S ((G.getD m 0+S.length - G.getD t 0) % S.length) S.length≥least:=by
 obtain ⟨m1,m2,_⟩:=Gj.1 hm
 have g0:∀i (hi:i<G.length),G.getD i 0=G[i]:=fun i hi=>by rw [List.getD_eq_getElem?_getD,List.getElem?_eq_getElem hi];rfl
 have gl:=getD_lt (Xh least hG) (by omega:0<S.length)
 rcases Nat.lt_or_gt_of_ne m2 with c | c
 ·have:=(hG t ht).2
  rw [List.all_eq_true] at this
  have:=this _ hm
  unfold BF at this
  rw [List.length_take,Nat.min_eq_left (by omega),decide_eq_false (show ¬(m:Int) > (t:Int) by omega),Bool.false_or,decide_eq_true_eq] at this
  have e:(G.take t).getD ((m:Int)).toNat 0=G.getD m 0:=by
   rw [Int.toNat_natCast,List.getD_eq_getElem?_getD,List.getElem?_take,if_pos c,List.getD_eq_getElem?_getD]
  rw [e,←g0 t ht,←aan h1 (gl m) (gl t),aaw,aan h1 (gl t) (gl m)] at this
  exact this
 ·have hm':(t:Int)∈dm d m d.ai.length:=Oh (by omega) hm
  have:=(hG m (by omega)).2
  rw [List.all_eq_true] at this
  have:=this _ hm'
  unfold BF at this
  rw [List.length_take,Nat.min_eq_left (by omega),decide_eq_false (show ¬(t:Int) > (m:Int) by omega),Bool.false_or,decide_eq_true_eq] at this
  have e:(G.take m).getD ((t:Int)).toNat 0=G.getD t 0:=by
   rw [Int.toNat_natCast,List.getD_eq_getElem?_getD,List.getElem?_take,if_pos c,List.getD_eq_getElem?_getD]
  rw [e,←g0 m (by omega)] at this
  exact this
include hN
theorem aeL {G:List Nat} (hG:gp d S least G) (hl:G.length=d.ai.length) {t:Nat} (ht:t<G.length):∀(k j:Nat) (v:Int),j+k=(dm d t d.ai.length).length→(v=-1∨least≤v)→
 ∃v',aP (ik (⟨S,toI G⟩:jO) (t:Int) (csL S) (dm d t d.ai.length)) (v,(j:Int))=some v'∧(v'=-1∨least≤v'):=by
 have hF:=hb.1
 have hnl:=zL d t d.ai.length
 have gl:=getD_lt (Xh least hG) (by omega:0<S.length)
 intro k
 induction k with
 | zero=>
  intro j v hj hv
  refine ⟨v,aV ?_,hv⟩
  unfold ik
  simp only
  rw [if_neg (by omega)]
 | succ k ih=>
  intro j v hj hv
  have hj':j< (dm d t d.ai.length).length:=by omega
  have hm:=List.getElem_mem hj'
  obtain ⟨m0,m1⟩:=Gw hm
  generalize hx:(dm d t d.ai.length)[j]=m at m0 m1 hm
  obtain ⟨i,rfl⟩:∃i:Nat,m=(i:Int):=⟨m.toNat,by omega⟩
  have hle:=acQ h1 hG hl ht hm
  have q1:=gl i
  have q2:=gl t
  have hd':(G.getD i 0+S.length - G.getD t 0) % S.length<S.length:=Nat.mod_lt _ (by omega)
  have st:∃v',ik (⟨S,toI G⟩:jO) (t:Int) (csL S) (dm d t d.ai.length) (v,(j:Int))=some (.inl (v',((j+1:Nat):Int)))∧(v'=-1∨least≤v'):=by
   unfold ik jV
   simp only
   rw [if_pos (by omega),iO hj',hx,Option.bind_some,Oi (by omega),Option.bind_some,Oi ht,Option.bind_some,aY (n:=((G.getD i 0:Nat):Int) - ((G.getD t 0:Nat):Int)) (by omega) (by omega),aY (n:=((G.getD i 0:Nat):Int) - ((G.getD t 0:Nat):Int)+(S.length:Int)) (by omega) (by omega),
    show ((G.getD i 0:Nat):Int) - ((G.getD t 0:Nat):Int)+(S.length:Int)=((G.getD i 0+S.length - G.getD t 0:Nat):Int) by omega,uI (by omega),Option.bind_some,iO (by rw [BZ];exact hd'),Option.bind_some,List.getElem_map,List.getElem_range,bI (by omega)]
   split
   ·exact ⟨_,rfl,.inr hle⟩
   ·exact ⟨_,rfl,hv⟩
  obtain ⟨v',s1,s2⟩:=st
  rw [aT s1]
  exact ih (j+1) v' (by omega) s2
theorem aeM {G:List Nat} (hG:gp d S least G) (hl:G.length=d.ai.length):∀(k t:Nat) (v:Int),t+k=d.ai.length→(v=-1∨least≤v)→
 ∃v',aP (iH (⟨S,toI G⟩:jO) (csL S) (nrL d)) (v,(t:Int))=some v'∧(v'=-1∨least≤v'):=by
 have hF:=hb.1
 intro k
 induction k with
 | zero=>
  intro t v ht hv
  refine ⟨v,aV ?_,hv⟩
  unfold iH
  simp only
  rw [EH,if_neg (by omega)]
 | succ k ih=>
  intro t v ht hv
  obtain ⟨v',s1,s2⟩:=aeL hb hN h1 hG hl (t:=t) (by omega) _ 0 v (Nat.zero_add _) hv
  have s1:aP (ik (⟨S,toI G⟩:jO) (t:Int) (csL S) (dm d t d.ai.length)) (v,0)=_:=s1
  have st:iH (⟨S,toI G⟩:jO) (csL S) (nrL d) (v,(t:Int))=some (.inl (v',((t+1:Nat):Int))):=by
   unfold iH
   simp only
   rw [EH,if_pos (by omega),iO (by rw [EH];omega),Option.bind_some,List.getElem_map,List.getElem_range,s1,Option.bind_some,bI (by omega)]
  rw [aT st]
  exact ih (t+1) v' (by omega) s2
omit hb hN h1 in
theorem Kr {G:List Nat} (hG:∀g∈G,g<S.length):∀x∈toI G,0≤x∧x≤(S.length:Int) - 1:=by
 intro x hx
 obtain ⟨g,hg,rfl⟩:=List.mem_map.1 hx
 have:=hG g hg
 omega
omit hb in
theorem aax {G:List Nat} (hG:∀g∈G,g<S.length) (hl:G.length≤24) (hv:iw S=some true):qo ⟨S,toI G⟩=some true:=by
 unfold qo
 rw [hv,Option.bind_some,if_neg (by simp only [not_true_eq_false,false_or,sH];omega)]
 have e:gm (toI G) (fun a0=>iF a0 S (toI G))=some ((toI G).any fun x=>!decide (0≤x∧x≤(S.length:Int) - 1)):=by
  unfold gm jr
  have htl:=sH G
  rcases acA (f:=fZ (fun a0=>iF a0 S (toI G)) (toI G)) (toI G) (fun x=>decide (0≤x∧x≤(S.length:Int) - 1)) (fun i=>(i:Int)) (by omega) (fun i hi=>by
   unfold fZ iF
   rw [if_pos (by omega),iO hi,Option.bind_some]
   simp only [kC,Option.bind_some]
   rw [aY (n:=(S.length:Int) - 1) (by omega) (by omega)]
   cases decide (0≤(toI G)[i]∧(toI G)[i]≤(S.length:Int) - 1)<;>rfl) (by unfold fZ;rw [if_neg (by omega)]) with ⟨q1,q2⟩ | ⟨q1,i,hi,q2⟩
  ·rw [q2]
   rw [List.any_eq_false.2 fun x hx=>by rw [List.all_eq_true.1 q1 x hx];decide]
   rfl
  ·rw [List.all_eq_false] at q1
   obtain ⟨x,hx,q⟩:=q1
   rw [decide_eq_true (Kr hG x hx)] at q
   exact absurd rfl q
 simp only [e,Option.bind_some]
 rw [List.any_eq_false.2 fun x hx=>by rw [decide_eq_true (Kr hG x hx)];decide]
 rfl
omit hb in
theorem aay {G:List Nat} (hG:∀g∈G,g<S.length) (hl:G.length≤24) (hv:lN S=some true):qp ⟨S,toI G⟩=some true:=by
 have htl:=sH G
 unfold qp En xA
 simp only [hv,Option.bind_some,if_true]
 rw [TQ (f:=oQ (toI G) (S.length:Int)) (toI G) (fun x=>decide (0≤x∧x≤(S.length:Int) - 1)) (by omega) (fun i hi=>by
  unfold oQ
  rw [if_pos (by omega),iO hi,Option.bind_some,WV,Option.bind_some,aY (n:=(S.length:Int) - 1) (by omega) (by omega)]) (by unfold oQ;rw [if_neg (by omega)])]
 rw [List.all_eq_true.2 fun x hx=>decide_eq_true (Kr hG x hx),if_pos rfl]
 show ((some (decide (((toI G).length:Int)≤24))).bind _).bind _=_
 rw [decide_eq_true (by omega)]
 rfl
end
theorem aaz {d:aB} (h:tH d=some true):d.ai.length≤24:=by
 unfold tH at h
 simp only [WV,Option.bind_some] at h
 by_cases c1:10≤d.Width∧d.Width≤20000
 ·by_cases c2:10≤d.Height∧d.Height≤20000
  ·rw [decide_eq_true c1,decide_eq_true c2,if_pos rfl,if_pos rfl] at h
   cases hp:tC d with
   | none=>rw [hp] at h;cases h
   | some v=>
    rw [hp] at h
    cases v with
    | false=>cases h
    | true=>
     by_cases c3:(d.ai.length:Int) >24
     ·simp only [Option.bind_some,if_true,decide_eq_true c3] at h
      cases h
     ·omega
  ·rw [decide_eq_true c1,decide_eq_false c2] at h
   cases h
 ·rw [decide_eq_false c1] at h
  cases h
theorem Rz (c m:List Int) (hc:∀x∈c,0≤x∧x≤255) (hm:∀x∈m,0≤x∧x≤255):uX c m=some true:=by
 unfold uX
 unfold BM
 rw [Option.bind_some]
 by_cases cl:(decide ((c.length:Int) >1048576)||decide ((m.length:Int) >1048576))=true
 ·rw [if_pos cl]
 rw [if_neg cl]
 obtain ⟨d,d1,dv,db⟩:=aad hc
 obtain ⟨S,s1,s2,s3,s4⟩:=Ye hm
 obtain ⟨least,l1,l2,l3⟩:∃l,Dw m 0 60=some l∧0≤l∧l<60:=by
  unfold Dw
  by_cases c1:(0:Int)≥(m.length:Int)
  ·rw [if_pos (.inr c1)]
   exact ⟨0,rfl,by omega,by omega⟩
  ·rw [if_neg (by omega)]
   obtain ⟨x,x1,x2⟩:=rd_some (L:=m) (i:=0) (by omega) (by omega)
   obtain ⟨y1,y2⟩:=hm x x2
   obtain ⟨k,rfl⟩:∃k:Nat,x=(k:Int):=⟨x.toNat,by omega⟩
   rw [x1,Option.bind_some,aY (n:=(k:Int)) (by omega) (by omega),show (60:Int)=((60:Nat):Int) from rfl,uI (by omega)]
   exact ⟨_,rfl,by omega,by have:=Nat.mod_lt k (show 60>0 by omega);omega⟩
 rw [d1,Option.bind_some,s1,Option.bind_some,l1,Option.bind_some]
 have hb:=Xg db
 have hF:=hb.1
 have hS:∀x∈S,okV x:=fun x hx=>Xc (s2 x hx)
 obtain ⟨code,x,y,e1,e2,e3⟩:=Yd db (S:=S) (by omega) least 2000 true
 have hvs:iw S=some true∧lN S=some true:=by
  obtain ⟨v,v1,v2,_⟩:=PT S (by omega)
  have:iw S=some true:=by
   unfold iw
   rw [kC,Option.bind_some,decide_eq_true (show 1≤(S.length:Int)∧(S.length:Int)≤8 by omega),if_pos rfl,aag S (by omega),List.all_eq_true.2 s2]
   rfl
  rw [this] at v2
  exact ⟨this,by rw [v1];exact v2.symm⟩
 have hfc:d.ai.length≤24:=by
  obtain ⟨v,v1,v2⟩:=Rq d db
  rw [dv] at v2
  exact aaz (by rw [v1];exact v2.symm)
 have hsv:∀(one:Bool) (r:Bool) (s:aK),bC (sT d S least 2000 0 [] one) []=some (r,s)→je d S least 2000 one=some (if s.left<0 then (none,5) else (some s,0)):=by
  intro one r s e
  unfold je
  rw [dv,Option.bind_some,if_pos rfl,hvs.1]
  simp only [Option.bind_some,Bool.not_true,Bool.false_eq_true,if_false,kC]
  rw [decide_eq_true (show 1≤(2000:Int)∧(2000:Int)≤20000 by omega),decide_eq_true (show 0≤least∧least≤200 by omega)]
  simp only [if_true,Option.bind_some,Bool.not_true,Bool.false_eq_true,if_false]
  rw [J9 hb,Option.bind_some,aeH hS (by omega) s3,Option.bind_some]
  have e:bC ⟨(List.range d.ai.length).map fun k=>dm d k d.ai.length,(List.range S.length).map fun y=>csP S y S.length,least,2000,0,[],one⟩ []=_:=e
  rw [e,Option.bind_some]
  split<;>rfl
 obtain ⟨r1,r0,q1,q0,p1,p0,hcase⟩:=aau hb (by omega) s3 least 2000 [] 2000 (by decide) (by omega) (by omega) (aeK least) (Nat.zero_le _)
 have f1:=hsv true _ _ p1
 have f0:=hsv false _ _ p0
 have hsp:∀A k,gK d S least 2000=some (A,k)→∃A',qm d S least 2000=some (A',k):=by
  intro A k h
  unfold gK iE at h
  unfold qm
  rw [e2] at h
  rw [e1]
  simp only [Option.bind_some] at h ⊢
  rcases e3 with h3 | ⟨rfl,a,b,rfl,rfl,h4,h5,h6,h7⟩
  ·rw [if_neg h3,Option.bind_some,if_neg (by decide),if_pos h3] at h
   rw [if_pos h3]
   obtain ⟨-,rfl⟩:=Prod.mk.inj (Option.some.inj h)
   exact ⟨_,rfl⟩
  ·rw [if_neg (by decide)]
   simp only [if_true,Option.bind_some] at h ⊢
   by_cases cb:b.found=0
   ·rw [cb] at h h4
    rw [if_pos h4]
    simp at h
    exact ⟨_,by rw [h.2]⟩
   ·rw [if_neg (by rw [h4];exact cb)]
    simp [cb] at h
    unfold vP
    rw [yS (by simp only [List.length_nil];omega)]
    exact ⟨_,by rw [←h.2];rfl⟩
 rcases hcase with ⟨rfl,rfl,rfl,rfl⟩ | ⟨L',rfl,rfl,rfl,rfl,k1,k2⟩ | ⟨G,L',L'',n,b,rfl,rfl,k1,k2,k3,rfl,k4,k5,k6,k7,k8,k9⟩
 ·have g1:gK d S least 2000=some ([],5):=by unfold gK iE;rw [f1];rfl
  have g0:ja d S least 2000=some (0,5):=by unfold ja;rw [f0];rfl
  obtain ⟨A',g2⟩:=hsp _ _ g1
  rw [g1,g0,g2]
  simp
 ·have g1:gK d S least 2000=some ([],3):=by
   unfold gK iE
   rw [f1]
   simp only
   rw [if_neg (by omega)]
   rfl
  have g0:ja d S least 2000=some (0,0):=by
   unfold ja
   rw [f0]
   simp only
   rw [if_neg (by omega)]
   rfl
  obtain ⟨A',g2⟩:=hsp _ _ g1
  rw [g1,g0,g2]
  simp
 ·have g1:gK d S least 2000=some (toI G,0):=by
   unfold gK iE
   rw [f1]
   simp only
   rw [if_neg (by omega)]
   rfl
  have g0:∃q qc,ja d S least 2000=some (q,qc)∧(qc=0→1≤q):=by
   unfold ja
   rw [f0]
   simp only
   by_cases c:L''<0
   ·rw [if_pos c]
    exact ⟨0,5,rfl,fun h=>by cases h⟩
   ·rw [if_neg c]
    exact ⟨n,0,rfl,fun _=>k4⟩
  obtain ⟨q,qc,g0,g3⟩:=g0
  obtain ⟨A',g2⟩:=hsp _ _ g1
  have hG:=Xh least k2
  have hpi:=aax (by omega) s3 hG (by omega) hvs.1
  have hps:=aay (by omega) s3 hG (by omega) hvs.2
  have htl:=sH G
  have hlc:∃v vc,oq d ⟨S,toI G⟩=some (v,vc)∧(vc=0→least≤v)∧(vc≠0→vc=6):=by
   obtain ⟨v,v1,v2⟩:=aeM hb (by omega) s3 k2 k3 d.ai.length 0 (-1) (by omega) (.inl rfl)
   have v1:aP (iH (⟨S,toI G⟩:jO) (csL S) (nrL d)) (-1,0)=_:=v1
   unfold oq
   rw [dv,Option.bind_some,if_pos rfl,hpi]
   simp only [Option.bind_some,Bool.not_true,Bool.false_eq_true,if_false]
   rw [if_neg (by omega),aeH hS (by omega) s3,Option.bind_some,J9 hb,Option.bind_some,v1,Option.bind_some]
   by_cases c:v<0
   ·rw [if_pos c]
    exact ⟨0,6,rfl,(fun h=>by cases h),fun _=>rfl⟩
   ·rw [if_neg c]
    exact ⟨v,0,rfl,(fun _=>by omega),fun h=>absurd rfl h⟩
  obtain ⟨v,vc,w1,w2,w3⟩:=hlc
  rw [g1,g0,g2]
  simp only [Option.bind_some]
  rw [w1,hps]
  have hfin:(if vc=0 then (if v≥least then some true else some (vc==6)) else some (vc==6))=some true:=by
   by_cases c:vc=0
   ·rw [if_pos c,if_pos (w2 c)]
   ·rw [if_neg c,w3 c]
    rfl
  by_cases cm:qc=0
  ·have:=g3 cm
   simp [cm,show q>0 by omega,htl,k3,hfin]
  ·simp [cm,htl,k3,hfin]
end Go.Pw
