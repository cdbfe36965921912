/- The plain law of FnSpecies. Conditions: none. -/
import Derived.Test.YtdibfdcmbjaejaaTspT
import Derived.Test.YtdibfdcmbjaejaaSimPe
import Derived.Test.YtdibfdcmbjaejaaSimPn
import Derived.Test.YtdibfdcmbjaejaaSimRh
namespace Go.Pw
open Go.Sim (min2 max2)
set_option linter.unusedVariables false
set_option linter.unusedSimpArgs false
def O5 (x:ae):Prop:=True∧True
def SH (x:aB):Prop:=x.Name.size≤1048576∧(x.Ring.length≤1048576∧∀a∈x.Ring,True)
def lT (x:aG):Prop:=True∧True∧(x.aH.length≤1048576∧∀a∈x.aH,O5 a)∧(x.aA.length≤1048576∧∀a∈x.aA,SH a)
theorem oh (n a b:Int):bQ n a b=some (decide (a≤n∧n≤b)):=by
 unfold bQ
 rw [Bool.decide_and]
theorem SI (s:ByteArray):∃v,jX s=some v:=by
 unfold jX
 by_cases c0:(s.size:Int) <1
 ·rw [if_pos c0];exact ⟨_,rfl⟩
 ·rw [if_neg c0]
  by_cases c1:(s.size:Int) >10
  ·rw [if_pos c1];exact ⟨_,rfl⟩
  ·rw [if_neg c1]
   obtain ⟨b,hb,hb1,hb2⟩:=QV (s:=s) (i:=0) (by omega)
   have hb':bt s 0=some b:=hb
   rw [hb']
   have hloop:∃o,aK (iZ s) 0=some o:=by
    refine Bj s.size (by omega) (fun i hi=>?_) ⟨.inl (),?_⟩
    ·obtain ⟨x,hx,_⟩:=QV (s:=s) hi
     unfold iZ
     rw [if_pos (by omega),hx]
     simp only [Option.bind_some]
     have:∃v:Bool,(if x<97 then (if x<48 then some true else some (decide (x>57))) else (if x>122 then (if x<48 then some true else some (decide (x>57))) else some false))=some v:=by
      split
      ·split<;>exact ⟨_,rfl⟩
      ·split
       ·split<;>exact ⟨_,rfl⟩
       ·exact ⟨_,rfl⟩
     obtain ⟨v,hv⟩:=this
     rw [hv]
     cases v with
     | true=>exact .inr ⟨_,rfl⟩
     | false=>exact .inl rfl
    ·unfold iZ
     rw [if_neg (by omega)]
   obtain ⟨o,ho⟩:=hloop
   rw [ho]
   have:∃v:Bool,((some b).bind fun x14=>if x14<97 then some true else (some b).bind fun x19=>some (decide (x19>122)))=some v:=by
    simp only [Option.bind_some]
    split<;>exact ⟨_,rfl⟩
   obtain ⟨v,hv⟩:=this
   rw [hv]
   cases v with
   | true=>exact ⟨_,rfl⟩
   | false=>cases o<;>exact ⟨_,rfl⟩
theorem Bl (a b c:ae):∃v,mW a b c=some v:=by
 unfold mW
 split
 ·exact ⟨_,rfl⟩
 ·split<;>exact ⟨_,rfl⟩
theorem Fz (a b c:ae):∃v,qw a b c=some v:=by
 obtain ⟨x,hx⟩:=Bl a b c
 unfold qw bQ
 rw [hx]
 simp only [Option.bind_some]
 split
 ·split<;>exact ⟨_,rfl⟩
 ·exact ⟨_,rfl⟩
theorem SK (a b c d:ae):∃v,nY a b c d=some v:=by
 obtain ⟨x,hx⟩:=Bl a b c
 obtain ⟨y,hy⟩:=Bl a b d
 obtain ⟨z,hz⟩:=Bl c d a
 obtain ⟨w,hw⟩:=Bl c d b
 unfold nY
 rw [hx,hy,hz,hw]
 simp only [Option.bind_some]
 split<;>exact ⟨_,rfl⟩
theorem SL (a b c d:ae):∃v,iV a b c d=some v:=by
 obtain ⟨x,hx⟩:=SK a b c d
 obtain ⟨y,hy⟩:=Fz a b c
 obtain ⟨z,hz⟩:=Fz a b d
 obtain ⟨w,hw⟩:=Fz c d a
 obtain ⟨u,hu⟩:=Fz c d b
 unfold iV
 rw [hx,hy,hz,hw,hu]
 simp only [Option.bind_some]
 cases x<;>cases y<;>cases z<;>cases w<;>exact ⟨_,rfl⟩
theorem yt {k n:Nat} (hn:0<n):md (k:Int) (n:Int)=some ((k % n:Nat):Int):=by
 unfold md
 rw [if_neg (by omega),Int.tmod_eq_emod_of_nonneg (by omega)]
 rfl
theorem LV {α:Type} {p:List α} {k:Nat} (hp:0<p.length):∃x,rd p ((k % p.length:Nat):Int)=some x:=⟨_,jm (Nat.mod_lt _ hp)⟩
theorem Vr (p:List ae) (hp:p.length≤1048576):∃v,kK p=some v:=by
 have:Ev (aK (eY p) (0,0)) (fun _=>True):=by
  refine Ev.loop (fun s:Int×Int=>0≤s.2∧s.2≤(p.length:Int)) (fun s:Int×Int=>((p.length:Int) - s.2).toNat) ?_ ⟨Int.le_refl _,by simp only;omega⟩
  rintro ⟨a,i⟩ ⟨i0,i1⟩
  unfold eY
  simp only at i0 i1 ⊢
  refine Ev.ite (fun hc=>?_) fun _=>Ev.ret trivial
  obtain ⟨j,rfl⟩:∃j:Nat,i=(j:Int):=⟨i.toNat,by omega⟩
  refine Ev.bind (Ev.rd i0 hc) fun x _=>?_
  rw [bT (by omega),yt (by omega)]
  obtain ⟨y,hy⟩:=LV (p:=p) (k:=j+1) (by omega)
  simp only [Option.bind_some,hy]
  exact Ev.ret ⟨⟨by simp only;omega,by simp only;omega⟩,by simp only;omega⟩
 obtain ⟨v,hv,_⟩:=this
 unfold kK
 rw [hv]
 exact ⟨_,rfl⟩
theorem Zm (p:ae):∃v,kE p=some v:=by
 unfold kE bQ
 simp only [Option.bind_some]
 split<;>exact ⟨_,rfl⟩
theorem Zn (p:List ae) (hp:p.length≤1048576):aK (dn p) 0=some (.inl ())∨aK (dn p) 0=some (.inr false):=by
 rcases Zl (f:=dn p) p (fun _=>True) (by omega) (fun i hi=>by
  unfold dn
  rw [if_pos (by omega),jm hi,Option.bind_some]
  obtain ⟨v,hv⟩:=Zm p[i]
  rw [hv,Option.bind_some]
  cases v
  ·exact .inr rfl
  ·exact .inl ⟨rfl,trivial⟩) (by unfold dn;rw [if_neg (by omega)]) with ⟨h,_⟩ | h
 ·exact .inl h
 ·exact .inr h
theorem Vs (p:List ae) (hp:p.length≤1048576) (i:Int) (x y:ae) {k:Int} (hk:0≤k):∃o,aK (aY p i x y) k=some o:=by
 have:Ev (aK (aY p i x y) k) (fun _=>True):=by
  refine Ev.loop (fun s=>0≤s) (fun s=>((p.length:Int) - s).toNat) ?_ hk
  intro s h0
  unfold aY
  refine Ev.ite (fun hc=>?_) fun _=>Ev.ret trivial
  obtain ⟨j,rfl⟩:∃j:Nat,s=(j:Int):=⟨s.toNat,by omega⟩
  rw [bT (by omega),yt (by omega)]
  obtain ⟨y2,hy⟩:=LV (p:=p) (k:=j+1) (by omega)
  simp only [Option.bind_some,hy,jm (show j<p.length by omega)]
  obtain ⟨v,hv⟩:=SL x y p[j] y2
  rw [hv]
  simp only [Option.bind_some]
  refine Ev.bind (P:=fun _=>True) (Ev.ite (fun _=>Ev.ret trivial) fun _=>Ev.ret trivial) fun t _=>?_
  exact Ev.ite (fun _=>Ev.ret trivial) fun _=>Ev.ret ⟨by omega,by omega⟩
 obtain ⟨v,hv,_⟩:=this
 exact ⟨v,hv⟩
theorem O6 (p:List ae) (hp:p.length≤1048576):∃o,aK (bJ p) 0=some o:=by
 refine Bj p.length (by omega) (fun i hi=>?_) ⟨_,by unfold bJ;rw [if_neg (by omega)]⟩
 unfold bJ
 obtain ⟨y,hy⟩:=LV (p:=p) (k:=i+1) (by omega)
 obtain ⟨z,hz⟩:=LV (p:=p) (k:=i+2) (by omega)
 have e2:w64 ((i:Int)+2)=((i+2:Nat):Int):=by rw [bG (by omega) (by omega)];omega
 rw [if_pos (by omega),bT (by omega),e2,yt (by omega),yt (by omega),jm hi]
 simp only [Option.bind_some,hy,hz]
 obtain ⟨u,hu⟩:=Fz p[i] y z
 obtain ⟨v,hv⟩:=Fz y z p[i]
 obtain ⟨o,ho⟩:=Vs p hp (i:Int) p[i] y (k:=((i+2:Nat):Int)) (by omega)
 rw [hu,hv,ho]
 simp only [Option.bind_some]
 have fin:∀t:Bool,(if t=true then (some (.inr (.inr false)):Option (Int ⊕ (Unit ⊕ Bool))) else (match (generalizing:=false) o with | .inl _=>some (.inl ((i+1:Nat):Int)) | .inr r2=>some (.inr (.inr r2))))=some (.inl (((i+1:Nat):Int)))∨∃r,(if t=true then (some (.inr (.inr false)):Option (Int ⊕ (Unit ⊕ Bool))) else (match (generalizing:=false) o with | .inl _=>some (.inl ((i+1:Nat):Int)) | .inr r2=>some (.inr (.inr r2))))=some (.inr r):=by
  intro t
  cases t
  ·cases o
   ·exact .inl rfl
   ·exact .inr ⟨_,rfl⟩
  ·exact .inr ⟨_,rfl⟩
 split
 ·exact fin true
 ·cases u
  ·exact fin v
  ·exact fin true
theorem XH (pts:List ae) (ring:List Int) (hp:pts.length≤1048576) (hr:ring.length≤1048576):Ev (iO pts ring) (fun r=>r.1.length≤1048576):=by
 unfold iO
 refine Ev.bind (P:=fun o=>match o with | .inl l=>l.length≤1048576 | .inr r=>r.1.length≤1048576) (Ev.loop (fun s:Int×List ae=>0≤s.1∧s.1≤(ring.length:Int)∧(s.2.length:Int)≤s.1) (fun s:Int×List ae=>((ring.length:Int) - s.1).toNat) ?_ ⟨Int.le_refl _,by simp only;omega,by simp⟩) fun o ho=>?_
 ·rintro ⟨i,out⟩ ⟨i0,i1,i2⟩
  unfold ik bQ
  simp only at i0 i1 i2 ⊢
  refine Ev.ite (fun hc=>?_) fun _=>Ev.ret (by simp only;omega)
  refine Ev.bind (Ev.rd i0 hc) fun x _=>?_
  simp only [Option.bind_some,Bool.and_eq_true,decide_eq_true_eq]
  refine Ev.ite (fun hx=>?_) fun _=>Ev.ret (by simp)
  have e:w64 ((pts.length:Int) - 1)=(pts.length:Int) - 1:=bG (by omega) (by omega)
  rw [e] at hx
  refine Ev.bind (Ev.rd hx.1 (by omega)) fun y _=>?_
  refine Ev.bind (Ev.apd (by simp;omega)) fun l hl=>?_
  subst hl
  rw [bG (n:=i+1) (by omega) (by omega)]
  exact Ev.ret ⟨⟨by simp only;omega,by simp only;omega,by simp only [List.length_append,List.length_singleton];omega⟩,by simp only;omega⟩
 ·cases o with
  | inl l=>exact Ev.ret ho
  | inr r=>exact Ev.ret ho
theorem SN (p:List ae) (hp:p.length≤1048576):∃v,fF p=some v:=by
 unfold fF kR
 by_cases c1:(p.length:Int) <3
 ·rw [if_pos c1]
  exact ⟨_,rfl⟩
 by_cases c2:(p.length:Int) >24
 ·rw [if_neg c1,if_pos c2]
  exact ⟨_,rfl⟩
 rw [if_neg c1,if_neg c2]
 obtain ⟨o,ho⟩:=O6 p hp
 obtain ⟨a,ha⟩:=Vr p hp
 rw [ho,ha]
 rcases Zn p hp with h | h<;>rw [h]
 ·cases o<;>exact ⟨_,rfl⟩
 ·exact ⟨_,rfl⟩
theorem SQ (l:List ae) (x:ae) (hl:l.length≤1048576):∃b,di l x=some b:=by
 unfold di fM
 obtain ⟨o,ho⟩:∃o,aK (dh l x) 0=some o:=by
  refine Bj l.length (by omega) (fun i hi=>?_) ⟨_,by unfold dh;rw [if_neg (by omega)]⟩
  unfold dh
  rw [if_pos (by omega),jm hi,Option.bind_some,bT (by omega)]
  split
  ·exact .inr ⟨_,rfl⟩
  ·exact .inl rfl
 rw [ho]
 cases o<;>exact ⟨_,rfl⟩
theorem Vt (d:aG) (hb:lT d):∃v,jZ d=some v:=by
 obtain ⟨_,_,⟨hp,_⟩,⟨hf,hF⟩⟩:=id hb
 obtain ⟨o1,p1⟩:∃o,aK (jY d) 0=some o:=by
  refine Bj d.aH.length (by omega) (fun i hi=>?_) ⟨_,by unfold jY;rw [if_neg (by omega)]⟩
  obtain ⟨b,b2⟩:=SQ (d.aH.take i) d.aH[i] (by rw [List.length_take];omega)
  have hs:slc d.aH 0 (i:Int)=some (d.aH.take i):=by
   unfold slc
   rw [if_pos ⟨by omega,by omega,by omega⟩]
   simp
  unfold jY bQ
  rw [if_pos (by omega),jm hi,hs,bT (by omega)]
  simp only [Option.bind_some,b2]
  cases (decide (d.aH[i].X≥0)&&decide (d.aH[i].X≤d.Width)) with
  | false=>exact .inr ⟨_,rfl⟩
  | true=>
   cases (decide (d.aH[i].Y≥0)&&decide (d.aH[i].Y≤d.Height)) with
   | false=>exact .inr ⟨_,rfl⟩
   | true=>
    cases b with
    | true=>exact .inr ⟨_,rfl⟩
    | false=>exact .inl rfl
 obtain ⟨o2,f1⟩:∃o,aK (jy d) 0=some o:=by
  refine Bj d.aA.length (by omega) (fun i hi=>?_) ⟨_,by unfold jy;rw [if_neg (by omega)]⟩
  obtain ⟨n,n2⟩:=SI (d.aA[i]).Name
  obtain ⟨r,r1,r2⟩:=XH d.aH (d.aA[i]).Ring hp (hF _ (List.getElem_mem hi)).2.1
  obtain ⟨q,q2⟩:=SN r.1 r2
  unfold jy
  rw [if_pos (by omega),jm hi,bT (by omega)]
  simp only [Option.bind_some,r1,q2,n2]
  have tail:∀t:Bool,(if t=true then (some (.inr (.inr false)):Option (Int ⊕ (Unit ⊕ Bool))) else (if r.2=true then some (!q) else some true).bind fun LW=>if LW=true then some (.inr (.inr false)) else some (.inl ((i+1:Nat):Int)))=some (.inl (((i+1:Nat):Int)))∨∃z,(if t=true then (some (.inr (.inr false)):Option (Int ⊕ (Unit ⊕ Bool))) else (if r.2=true then some (!q) else some true).bind fun LW=>if LW=true then some (.inr (.inr false)) else some (.inl ((i+1:Nat):Int)))=some (.inr z):=by
   intro t
   cases t
   ·cases r.2
    ·exact .inr ⟨_,rfl⟩
    ·cases q
     ·exact .inr ⟨_,rfl⟩
     ·exact .inl rfl
   ·exact .inr ⟨_,rfl⟩
  cases n with
  | false=>exact .inr ⟨_,rfl⟩
  | true=>
   by_cases c:(i:Int) >0
   ·simp only [if_pos c,if_true]
    rw [Vp (by omega) (by omega),jm (show i - 1<d.aA.length by omega)]
    simp only [Option.bind_some]
    exact tail (!Op.bytesLess (d.aA[i - 1]'(by omega)).Name.toList (d.aA[i]).Name.toList)
   ·simp only [if_neg c,if_true,Option.bind_some]
    exact tail false
 unfold jZ
 rw [p1,f1]
 simp only [bQ,Option.bind_some]
 cases (decide (d.Width≥10)&&decide (d.Width≤20000)) with
 | false=>exact ⟨_,rfl⟩
 | true=>
  cases (decide (d.Height≥10)&&decide (d.Height≤20000)) with
  | false=>exact ⟨_,rfl⟩
  | true=>
   simp only [if_true]
   by_cases c1:(d.aH.length:Int) >48
   ·simp only [if_pos c1,if_true]
    exact ⟨_,rfl⟩
   ·simp only [if_neg c1,Option.bind_some]
    cases decide ((d.aA.length:Int) >24) with
    | true=>cases o1<;>exact ⟨_,rfl⟩
    | false=>cases o1<;>cases o2<;>exact ⟨_,rfl⟩
theorem itS {α:Type} {p:Prop} [Decidable p] {a b:Option α} (h1:∃r,a=some r) (h2:∃r,b=some r):∃r,(if p then a else b)=some r:=by
 by_cases c:p
 ·rw [if_pos c];exact h1
 ·rw [if_neg c];exact h2
theorem XI (x:ak):∃v,gY x=some v:=by
 unfold gY
 obtain ⟨s,hs⟩:∃s,fG x.rf=some s:=by
  obtain ⟨r,hr⟩:∃r,kS x.rf=some r:=by
   unfold kS
   repeat' (first | exact ⟨_,rfl⟩ | refine itS ?_ ?_)
  unfold fG
  rw [hr]
  exact ⟨_,rfl⟩
 rw [hs]
 simp only [oh,Option.bind_some]
 cases s.2<;>simp only [if_true,if_false,Bool.false_eq_true]
 ·exact ⟨_,rfl⟩
 ·cases decide (0≤x.iM∧x.iM≤100)<;>simp only [if_true,if_false,Bool.false_eq_true]
  ·exact ⟨_,rfl⟩
  ·cases decide (-15≤w64 (x.iM - s.1)∧w64 (x.iM - s.1)≤15)<;>exact ⟨_,rfl⟩
noncomputable def NS (x:ak):Bool:=(gY x).getD false
theorem Vu (x:ak):gY x=some (NS x):=by
 obtain ⟨v,h⟩:=XI x
 unfold NS
 rw [h];rfl
theorem SS {α:Type} {f:Int→Option (Int ⊕ (Unit ⊕ Int))} (l:List α) (V:α→Bool) (hl:l.length≤1048576)
 (h1:∀(i:Nat) (hi:i<l.length),f (i:Int)=if (!V l[i])=true then some (.inr (.inr (i:Int))) else some (.inl (w64 ((i:Int)+1)))) (h2:f (l.length:Int)=some (.inr (.inl ()))):
 (l.all V=true∧aK f 0=some (.inl ()))∨(l.all V=false∧∃k:Nat,aK f 0=some (.inr (k:Int))):=by
 rcases IU l (fun x=>!V x) (fun k=>(k:Int)) (by omega) h1 h2 with ⟨a,b⟩ | ⟨i,hi,a,_,b⟩
 ·exact .inl ⟨List.all_eq_true.2 fun x hx=>by simpa using a x hx,b⟩
 ·refine .inr ⟨?_,i,b⟩
  rw [List.all_eq_false]
  exact ⟨_,List.getElem_mem hi,by simpa using a⟩
theorem Vw (l:List ak) (hl:l.length≤1048576):lM l=some (l.all NS):=by
 unfold lM dm dM
 rcases SS (f:=bP (fun a0=>gI a0) l) l NS hl (fun i hi=>by
  unfold bP gI
  rw [if_pos (by omega),jm hi,Option.bind_some]
  simp only [Vu,Option.bind_some]) (by unfold bP;rw [if_neg (by omega)]) with ⟨a,b⟩ | ⟨a,k,b⟩
 ·rw [b,a];rfl
 ·rw [b,a]
  show some (!decide ((k:Int)≥0))=_
  rw [decide_eq_true (by omega)]
  rfl
def cr (a b c:ae):Int:=(b.X - a.X) * (c.Y - a.Y) - (b.Y - a.Y) * (c.X - a.X)
def Pt (a:ae):Prop:=0≤a.X∧a.X≤20000∧0≤a.Y∧a.Y≤20000
theorem zQ (a b c:ae):cr b c a=cr a b c:=by
 unfold cr
 simp only [Int.sub_mul,Int.mul_sub]
 have e1:=Int.mul_comm c.X a.Y
 have e2:=Int.mul_comm c.Y a.X
 have e3:=Int.mul_comm c.X b.Y
 have e4:=Int.mul_comm c.Y b.X
 have e5:=Int.mul_comm b.X a.Y
 have e6:=Int.mul_comm b.Y a.X
 have e7:=Int.mul_comm b.X b.Y
 have e8:=Int.mul_comm c.X c.Y
 have e9:=Int.mul_comm a.X a.Y
 omega
theorem LX {x y:Int} (h1:-20000≤x) (h2:x≤20000) (h3:-20000≤y) (h4:y≤20000):-400000000≤x*y∧x*y≤400000000:=by
 have a1:0≤(20000 - x) * (20000+y):=Int.mul_nonneg (by omega) (by omega)
 have a2:0≤(20000+x) * (20000 - y):=Int.mul_nonneg (by omega) (by omega)
 have a3:0≤(20000 - x) * (20000 - y):=Int.mul_nonneg (by omega) (by omega)
 have a4:0≤(20000+x) * (20000+y):=Int.mul_nonneg (by omega) (by omega)
 simp only [Int.sub_mul,Int.mul_sub,Int.add_mul,Int.mul_add] at a1 a2 a3 a4
 have e:=Int.mul_comm x 20000
 constructor<;>omega
theorem IV {a b c:ae} (ha:Pt a) (hb:Pt b) (hc:Pt c) (h:0<cr a b c):mW a b c=some 1:=by
 obtain ⟨a1,a2,a3,a4⟩:=ha
 obtain ⟨b1,b2,b3,b4⟩:=hb
 obtain ⟨c1,c2,c3,c4⟩:=hc
 unfold cr at h
 obtain ⟨m1,m2⟩:=LX (x:=b.X - a.X) (y:=c.Y - a.Y) (by omega) (by omega) (by omega) (by omega)
 obtain ⟨m3,m4⟩:=LX (x:=b.Y - a.Y) (y:=c.X - a.X) (by omega) (by omega) (by omega) (by omega)
 unfold mW
 rw [bG (n:=b.X - a.X) (by omega) (by omega),bG (n:=c.Y - a.Y) (by omega) (by omega),bG (n:=b.Y - a.Y) (by omega) (by omega),bG (n:=c.X - a.X) (by omega) (by omega)]
 generalize (b.X - a.X) * (c.Y - a.Y)=p at*
 generalize (b.Y - a.Y) * (c.X - a.X)=q at*
 rw [bG (n:=p) (by omega) (by omega),bG (n:=q) (by omega) (by omega),bG (n:=p - q) (by omega) (by omega),if_pos (by omega)]
theorem FB {a b c:ae} (ha:Pt a) (hb:Pt b) (hc:Pt c) (h:0<cr a b c):qw a b c=some false:=by
 unfold qw
 rw [IV ha hb hc h,Option.bind_some,if_neg (by decide)]
 rfl
theorem J5 {a b c d:ae} (ha:Pt a) (hb:Pt b) (hc:Pt c) (hd:Pt d) (h1:0<cr a b c) (h2:0<cr a b d) (h3:0<cr c d a) (h4:0<cr c d b):iV a b c d=some false:=by
 unfold iV nY
 rw [IV ha hb hc h1,IV ha hb hd h2,FB ha hb hc h1,FB ha hb hd h2,FB hc hd ha h3,FB hc hd hb h4]
 rfl
theorem Vx {a b c:ae} (h:0<cr a b c):¬(a.X=b.X∧a.Y=b.Y):=by
 rintro ⟨h1,h2⟩
 unfold cr at h
 rw [h1,h2,Int.sub_self,Int.sub_self,Int.zero_mul,Int.zero_mul] at h
 omega
theorem Zo {a:ae} (ha:Pt a):kE a=some true:=by
 obtain ⟨a1,a2,a3,a4⟩:=ha
 unfold kE
 rw [oh,oh,decide_eq_true ⟨a1,a2⟩,decide_eq_true ⟨a3,a4⟩]
 rfl
theorem QW (p:List ae) (hp:p.length≤1048576) (h:∀a∈p,Pt a):kR p=some true:=by
 unfold kR
 have:=lG (f:=dn p) (fun i:Nat=>(i:Int)) p.length (r:= .inl ()) (fun i hi=>by
  unfold dn
  rw [if_pos (by omega),jm hi,Option.bind_some,Zo (h _ (List.getElem_mem hi)),Option.bind_some,if_pos rfl,bT (by omega)]) (by
  unfold dn
  rw [if_neg (by omega)])
 have this:aK (dn p) 0=some (.inl ()):=this
 rw [this]
 rfl
theorem tq {p:List ae} {i:Nat} {a b c:ae} (hn:p.length≤24) (h0:rd p (i:Int)=some a) (h1:rd p (((i+1) % p.length:Nat):Int)=some b) (h2:rd p (((i+2) % p.length:Nat):Int)=some c)
 (ha:Pt a) (hb:Pt b) (hc:Pt c) (h:0<cr a b c) (hi:i<p.length) (hl:aK (aY p (i:Int) a b) ((i+2:Nat):Int)=some (.inl ())):bJ p (i:Int)=some (.inl ((i+1:Nat):Int)):=by
 unfold bJ
 have w2:w64 ((i:Int)+2)=((i+2:Nat):Int):=by rw [bG (by omega) (by omega)];omega
 rw [if_pos (by omega),h0,Option.bind_some,bT (by omega),yt (by omega),Option.bind_some,h1,Option.bind_some,w2,yt (by omega),Option.bind_some,h2,Option.bind_some,if_neg (Vx h),FB ha hb hc h,Option.bind_some,if_neg (by decide),FB hb hc ha (by rw [zQ];exact h)]
 simp only [Option.bind_some]
 rw [if_neg (by decide),hl]
 rfl
theorem xC {p:List ae} {i k:Nat} {a b:ae} (hk:p.length≤k):aK (aY p (i:Int) a b) (k:Int)=some (.inl ()):=by
 refine aV ?_
 unfold aY
 rw [if_neg (by omega)]
theorem J6 {p:List ae} {i k:Nat} {a b:ae} (hn:p.length≤24) (hk:k<p.length) (he:(k+1) % p.length=i) (h:aK (aY p (i:Int) a b) ((k+1:Nat):Int)=some (.inl ())):aK (aY p (i:Int) a b) (k:Int)=some (.inl ()):=by
 rw [aX (s':=((k+1:Nat):Int))]
 ·exact h
 ·unfold aY
  rw [if_pos (by omega),bT (by omega),yt (by omega),Option.bind_some,if_neg (by rw [he];simp)]
  rfl
theorem J7 {p:List ae} {i k:Nat} {a b c d:ae} (hn:p.length≤24) (hk:k<p.length) (he:(k+1) % p.length≠i) (h0:rd p (k:Int)=some c) (h1:rd p (((k+1) % p.length:Nat):Int)=some d) (ht:iV a b c d=some false)
 (h:aK (aY p (i:Int) a b) ((k+1:Nat):Int)=some (.inl ())):aK (aY p (i:Int) a b) (k:Int)=some (.inl ()):=by
 rw [aX (s':=((k+1:Nat):Int))]
 ·exact h
 ·unfold aY
  rw [if_pos (by omega),bT (by omega),yt (by omega),Option.bind_some,if_pos (by omega),h0,Option.bind_some,Option.bind_some,h1,Option.bind_some,ht]
  rfl
def cx (a b:ae):Int:=a.X*b.Y - a.Y*b.X
theorem SX {a b:ae} (ha:Pt a) (hb:Pt b):w64 ((w64 (a.X*b.Y)) - (w64 (a.Y*b.X)))=cx a b∧-800000000≤cx a b∧cx a b≤800000000:=by
 obtain ⟨a1,a2,a3,a4⟩:=ha
 obtain ⟨b1,b2,b3,b4⟩:=hb
 obtain ⟨m1,m2⟩:=LX (x:=a.X) (y:=b.Y) (by omega) (by omega) (by omega) (by omega)
 obtain ⟨m3,m4⟩:=LX (x:=a.Y) (y:=b.X) (by omega) (by omega) (by omega) (by omega)
 unfold cx
 rw [bG (n:=a.X*b.Y) (by omega) (by omega),bG (n:=a.Y*b.X) (by omega) (by omega),bG (n:=a.X*b.Y - a.Y*b.X) (by omega) (by omega)]
 exact ⟨rfl,by omega,by omega⟩
theorem xE {p:List ae} {i:Nat} {a b:ae} {s:Int} (hn:p.length≤24) (hi:i<p.length) (h0:rd p (i:Int)=some a) (h1:rd p (((i+1) % p.length:Nat):Int)=some b) (ha:Pt a) (hb:Pt b) (hs0:-100000000000≤s) (hs1:s≤100000000000):
 eY p (s,(i:Int))=some (.inl (s+cx a b,((i+1:Nat):Int))):=by
 obtain ⟨e,e1,e2⟩:=SX ha hb
 unfold eY
 simp only
 rw [if_pos (by omega),h0,Option.bind_some,bT (by omega),yt (by omega),Option.bind_some,h1,Option.bind_some,e,bG (n:=s+cx a b) (by omega) (by omega)]
theorem QX {p:List ae} {s:Int}:eY p (s,(p.length:Int))=some (.inr s):=by
 unfold eY
 simp only
 rw [if_neg (by omega)]
theorem Vy (a b c:ae):cx a b+cx b c+cx c a=cr a b c:=by
 unfold cx cr
 simp only [Int.sub_mul,Int.mul_sub]
 have e1:=Int.mul_comm c.X a.Y
 have e2:=Int.mul_comm c.Y a.X
 have e3:=Int.mul_comm c.X b.Y
 have e4:=Int.mul_comm c.Y b.X
 have e5:=Int.mul_comm b.X a.Y
 have e6:=Int.mul_comm b.Y a.X
 have e9:=Int.mul_comm a.X a.Y
 omega
theorem Yp {a b c:ae} (ha:Pt a) (hb:Pt b) (hc:Pt c) (h:0<cr a b c):fF [a,b,c]=some true:=by
 have hv:=QW [a,b,c] (by simp) (by simp [ha,hb,hc])
 have hbc:0<cr b c a:=by rw [zQ];exact h
 have hca:0<cr c a b:=by rw [zQ,zQ];exact h
 have l0:aK (aY [a,b,c] ((0:Nat):Int) a b) ((0+2:Nat):Int)=some (.inl ()):=J6 (k:=2) (by simp) (by simp) (by simp) (xC (by simp))
 have c0:=tq (p:=[a,b,c]) (i:=0) (by simp) (by simp [rd]) (by simp [rd]) (by simp [rd]) ha hb hc h (by simp) l0
 have c1:=tq (p:=[a,b,c]) (i:=1) (by simp) (by simp [rd]) (by simp [rd]) (by simp [rd]) hb hc ha hbc (by simp) (xC (by simp))
 have c2:=tq (p:=[a,b,c]) (i:=2) (by simp) (by simp [rd]) (by simp [rd]) (by simp [rd]) hc ha hb hca (by simp) (xC (by simp))
 have hl:aK (bJ [a,b,c]) 0=some (.inl ()):=by
  have c0':bJ [a,b,c] 0=_:=c0
  rw [aX c0',aX c1,aX c2]
  refine aV ?_
  unfold bJ
  rw [if_neg (by simp)]
 have hd:kK [a,b,c]=some (cr a b c):=by
  obtain ⟨_,e1,e2⟩:=SX ha hb
  obtain ⟨_,e3,e4⟩:=SX hb hc
  have d0:=xE (p:=[a,b,c]) (i:=0) (s:=0) (by simp) (by simp) (by simp [rd]) (by simp [rd]) ha hb (by omega) (by omega)
  have d1:=xE (p:=[a,b,c]) (i:=1) (s:=0+cx a b) (by simp) (by simp) (by simp [rd]) (by simp [rd]) hb hc (by omega) (by omega)
  have d2:=xE (p:=[a,b,c]) (i:=2) (s:=0+cx a b+cx b c) (by simp) (by simp) (by simp [rd]) (by simp [rd]) hc ha (by omega) (by omega)
  have d0':eY [a,b,c] (0,0)=_:=d0
  have d3:eY [a,b,c] (0+cx a b+cx b c+cx c a,((2+1:Nat):Int))=_:=QX
  unfold kK
  rw [aX d0',aX d1,aX d2,aV d3,Option.bind_some,←Vy,Int.zero_add]
 unfold fF
 rw [if_neg (by simp),if_neg (by simp),hv]
 simp only [Option.bind_some,Bool.not_true,Bool.false_eq_true,if_false]
 rw [hl]
 simp only [Option.bind_some]
 rw [hd,Option.bind_some,decide_eq_true h]
theorem aa9 {a b c d:ae} (ha:Pt a) (hb:Pt b) (hc:Pt c) (hd:Pt d) (h1:0<cr a b c) (h2:0<cr b c d) (h3:0<cr c d a) (h4:0<cr d a b):fF [a,b,c,d]=some true:=by
 have hv:=QW [a,b,c,d] (by simp) (by simp [ha,hb,hc,hd])
 have abd:0<cr a b d:=by rw [zQ];exact h4
 have cdb:0<cr c d b:=by rw [zQ];exact h2
 have bca:0<cr b c a:=by rw [zQ];exact h1
 have dac:0<cr d a c:=by rw [zQ];exact h3
 have t1:iV a b c d=some false:=J5 ha hb hc hd h1 abd h3 cdb
 have t2:iV b c d a=some false:=J5 hb hc hd ha h2 bca h4 dac
 have l0:aK (aY [a,b,c,d] ((0:Nat):Int) a b) ((0+2:Nat):Int)=some (.inl ()):=
  J7 (k:=2) (by simp) (by simp) (by simp) (by simp [rd]) (by simp [rd]) t1 (J6 (k:=3) (by simp) (by simp) (by simp) (xC (by simp)))
 have l1:aK (aY [a,b,c,d] ((1:Nat):Int) b c) ((1+2:Nat):Int)=some (.inl ()):=
  J7 (k:=3) (by simp) (by simp) (by simp) (by simp [rd]) (by simp [rd]) t2 (xC (by simp))
 have c0:=tq (p:=[a,b,c,d]) (i:=0) (by simp) (by simp [rd]) (by simp [rd]) (by simp [rd]) ha hb hc h1 (by simp) l0
 have c1:=tq (p:=[a,b,c,d]) (i:=1) (by simp) (by simp [rd]) (by simp [rd]) (by simp [rd]) hb hc hd h2 (by simp) l1
 have c2:=tq (p:=[a,b,c,d]) (i:=2) (by simp) (by simp [rd]) (by simp [rd]) (by simp [rd]) hc hd ha h3 (by simp) (xC (by simp))
 have c3:=tq (p:=[a,b,c,d]) (i:=3) (by simp) (by simp [rd]) (by simp [rd]) (by simp [rd]) hd ha hb h4 (by simp) (xC (by simp))
 have hl:aK (bJ [a,b,c,d]) 0=some (.inl ()):=by
  have c0':bJ [a,b,c,d] 0=_:=c0
  rw [aX c0',aX c1,aX c2,aX c3]
  refine aV ?_
  unfold bJ
  rw [if_neg (by simp)]
 have hdb:kK [a,b,c,d]=some (cr a b c+cr c d a):=by
  obtain ⟨_,e1,e2⟩:=SX ha hb
  obtain ⟨_,e3,e4⟩:=SX hb hc
  obtain ⟨_,e5,e6⟩:=SX hc hd
  have d0:=xE (p:=[a,b,c,d]) (i:=0) (s:=0) (by simp) (by simp) (by simp [rd]) (by simp [rd]) ha hb (by omega) (by omega)
  have d1:=xE (p:=[a,b,c,d]) (i:=1) (s:=0+cx a b) (by simp) (by simp) (by simp [rd]) (by simp [rd]) hb hc (by omega) (by omega)
  have d2:=xE (p:=[a,b,c,d]) (i:=2) (s:=0+cx a b+cx b c) (by simp) (by simp) (by simp [rd]) (by simp [rd]) hc hd (by omega) (by omega)
  have d3:=xE (p:=[a,b,c,d]) (i:=3) (s:=0+cx a b+cx b c+cx c d) (by simp) (by simp) (by simp [rd]) (by simp [rd]) hd ha (by omega) (by omega)
  have d0':eY [a,b,c,d] (0,0)=_:=d0
  have d4:eY [a,b,c,d] (0+cx a b+cx b c+cx c d+cx d a,((3+1:Nat):Int))=_:=QX
  have e:cx c a=- cx a c:=by
   unfold cx
   have e1:=Int.mul_comm c.X a.Y
   have e2:=Int.mul_comm c.Y a.X
   omega
  unfold kK
  rw [aX d0',aX d1,aX d2,aX d3,aV d4,Option.bind_some,←Vy a b c,←Vy c d a,e]
  congr 1
  omega
 unfold fF
 rw [if_neg (by simp),if_neg (by simp),hv]
 simp only [Option.bind_some,Bool.not_true,Bool.false_eq_true,if_false]
 rw [hl]
 simp only [Option.bind_some]
 rw [hdb,Option.bind_some,decide_eq_true (by omega)]
def Sr (c:List Int) (n:Int) (s:ai):Prop:=s.code=c∧0≤s.at_∧s.at_≤n
theorem Sr.mono {c:List Int} {n m:Int} {s:ai} (h:Sr c n s) (hm:n≤m):Sr c m s:=⟨h.1,h.2.1,by have:=h.2.2;omega⟩
theorem Zp (x:Int):0≤Gt .u64 x 255∧Gt .u64 x 255≤255:=by
 unfold Gt
 have h1:(BitVec.ofInt IntKind.u64.bits x &&& BitVec.ofInt IntKind.u64.bits 255).toNat≤255:=by
  rw [BitVec.toNat_and]
  exact Nat.le_trans Nat.and_le_right (by decide)
 generalize (BitVec.ofInt IntKind.u64.bits x &&& BitVec.ofInt IntKind.u64.bits 255).toNat=k at h1
 have e:IntKind.wrap .u64 (k:Int)=(k:Int):=by
  simp only [IntKind.wrap,IntKind.signed,IntKind.bits]
  simp
  omega
 rw [e]
 omega
theorem QY {c:List Int} (hc:∀x∈c,0≤x∧x≤255) {n:Int} (hn:n≤1000000000) {s:ai} (h:Sr c n s):∃v s',kL s=some (v,s')∧0≤v∧v≤255∧Sr c (n+1) s':=by
 obtain ⟨h1,h2,h3⟩:=h
 have e1:w64 (s.at_+1)=s.at_+1:=bG (by omega) (by omega)
 have k4:∀b,0≤b→b≤255→∃v s',je s b=some (v,s')∧0≤v∧v≤255∧Sr c (n+1) s':=by
  intro b b1 b2
  unfold je shr
  rw [e1]
  by_cases q:s.at_+1≤(s.code.length:Int)
  ·rw [if_pos q]
   exact ⟨_,_,rfl,b1,b2,h1,by show 0≤s.at_+1;omega,by show s.at_+1≤n+1;omega⟩
  ·rw [if_neg q,if_neg (by decide)]
   simp only [Option.bind_some]
   have a:=Zp (Int.fdiv (IntKind.wrap .u64 ((IntKind.wrap .u64 ((IntKind.wrap .u64 (s.seed*6364136223846793005))+(IntKind.wrap .u64 b)))+1442695040888963407)) (2 ^ min (Int.toNat 40) IntKind.u64.bits))
   refine ⟨_,_,rfl,?_,?_,h1,by show 0≤s.at_+1;omega,by show s.at_+1≤n+1;omega⟩
   ·rw [bG (by omega) (by omega)];exact a.1
   ·rw [bG (by omega) (by omega)];exact a.2
 unfold kL
 by_cases q:s.at_< (s.code.length:Int)
 ·rw [if_pos q]
  obtain ⟨i,hi⟩:∃i:Nat,s.at_=(i:Int):=⟨s.at_.toNat,by omega⟩
  have hlt:i<s.code.length:=by omega
  rw [hi,jm hlt,Option.bind_some]
  have hb:=hc s.code[i] (by rw [←h1];exact List.getElem_mem hlt)
  rw [bG (by omega) (by omega)]
  exact k4 _ hb.1 hb.2
 ·rw [if_neg q]
  exact k4 0 (by omega) (by omega)
theorem lq {c:List Int} (hc:∀x∈c,0≤x∧x≤255) {n:Int} (hn:n≤999999999) {s:ai} (h:Sr c n s) (m:Int):∃v s',aO s m=some (v,s')∧0≤v∧(1≤m→v<m)∧Sr c (n+2) s':=by
 unfold aO
 by_cases q:m≤1
 ·rw [if_pos q]
  exact ⟨_,_,rfl,by omega,by omega,h.mono (by omega)⟩
 ·rw [if_neg q]
  obtain ⟨v,s1,e1,v1,v2,h1⟩:=QY hc (by omega) h
  have k6:∀(x:Int) (t:ai),0≤x→Sr c (n+2) t→∃v s',jf m x t.code t.at_ t.seed=some (v,s')∧0≤v∧(1≤m→v<m)∧Sr c (n+2) s':=by
   intro x t hx ht
   unfold jf md
   rw [if_neg (by omega),Option.bind_some]
   have e:x.tmod m=x % m:=Int.tmod_eq_emod_of_nonneg hx
   refine ⟨_,_,rfl,?_,fun _=>?_,ht⟩
   ·rw [e];exact Int.emod_nonneg _ (by omega)
   ·rw [e];exact Int.emod_lt_of_pos _ (by omega)
  simp only [e1,Option.bind_some]
  by_cases q2:m>200
  ·rw [if_pos q2]
   obtain ⟨w,s2,e2,w1,w2,h2⟩:=QY hc (n:=n+1) (by omega) h1
   simp only [e2,Option.bind_some]
   have a1:w64 (v*256)=v*256:=bG (by omega) (by omega)
   have a2:w64 (v*256+w)=v*256+w:=bG (by omega) (by omega)
   rw [a1,a2]
   exact k6 _ s2 (by omega) (h2.mono (by omega))
  ·rw [if_neg q2]
   exact k6 v s1 v1 (h1.mono (by omega))
theorem O7 {c:List Int} (hc:∀x∈c,0≤x∧x≤255) {n:Int} (hn:n≤999999999) {s:ai} (h:Sr c n s) (m:Int):∃v s',gK s m=some (v,s')∧Sr c (n+2) s':=by
 obtain ⟨v,s',e,_,_,h'⟩:=lq hc hn h m
 unfold gK
 rw [e]
 exact ⟨_,_,rfl,h'⟩
theorem Ey {c:List Int} (hc:∀x∈c,0≤x∧x≤255) {n:Int} (hn:n≤999999999) {s:ai} (h:Sr c n s) (l:List Int) (hl:1≤l.length):∃v s',cZ s l=some (v,s')∧v∈l∧Sr c (n+2) s':=by
 obtain ⟨v,s',e,v1,v2,h'⟩:=lq hc hn h (l.length:Int)
 have v3:=v2 (by omega)
 obtain ⟨i,hi⟩:∃i:Nat,v=(i:Int):=⟨v.toNat,by omega⟩
 subst hi
 have hlt:i<l.length:=by omega
 unfold cZ
 rw [e]
 simp only [Option.bind_some,jm hlt]
 exact ⟨_,_,rfl,List.getElem_mem hlt,h'⟩
theorem XJ (c:List Int):∃s,pG c=some s∧Sr c 0 s:=⟨_,rfl,rfl,by show (0:Int)≤0;omega,by show (0:Int)≤0;omega⟩
theorem XK {c:List Int} (hc:∀x∈c,0≤x∧x≤255) {n:Int} (hn:n≤999999999) {s:ai} (h:Sr c n s) (l:List ByteArray) (hl:1≤l.length):∃v s',gU s l=some (v,s')∧Sr c (n+2) s':=by
 obtain ⟨v,s',e,v1,v2,h'⟩:=lq hc hn h (l.length:Int)
 have v3:=v2 (by omega)
 obtain ⟨i,hi⟩:∃i:Nat,v=(i:Int):=⟨v.toNat,by omega⟩
 subst hi
 have hlt:i<l.length:=by omega
 unfold gU
 rw [e]
 simp only [Option.bind_some,jm hlt]
 exact ⟨_,_,rfl,h'⟩
theorem Ez {c:List Int} (hc:∀x∈c,0≤x∧x≤255) {n:Int} {s:ai} (h:Sr c n s) (hn:n≤999999999) (m:Int):Ev (aO s m) (fun r=>0≤r.1∧(1≤m→r.1<m)∧Sr c (n+2) r.2):=by
 obtain ⟨v,s',e,h1,h2,h3⟩:=lq hc (by omega) h m
 exact ⟨_,e,h1,h2,h3⟩
theorem Vz {c:List Int} (hc:∀x∈c,0≤x∧x≤255) {n:Int} {s:ai} (h:Sr c n s) (hn:n≤999999999) (m:Int):Ev (gK s m) (fun r=>Sr c (n+2) r.2):=by
 obtain ⟨v,s',e,h3⟩:=O7 hc (by omega) h m
 exact ⟨_,e,h3⟩
theorem Bo {c:List Int} (hc:∀x∈c,0≤x∧x≤255) {n:Int} {s:ai} (h:Sr c n s) (hn:n≤999999999) (l:List Int) (hl:1≤l.length):Ev (cZ s l) (fun r=>r.1∈l∧Sr c (n+2) r.2):=by
 obtain ⟨v,s',e,h1,h3⟩:=Ey hc (by omega) h l hl
 exact ⟨_,e,h1,h3⟩
theorem QZ (c:List Int):Ev (pG c) (fun s=>Sr c 0 s):=by
 obtain ⟨s,h1,h2⟩:=XJ c
 exact ⟨s,h1,h2⟩
theorem XL {c:List Int} (hc:∀x∈c,0≤x∧x≤255) {n:Int} {s:ai} (h:Sr c n s) (hn:n≤999999999) (l:List ByteArray) (hl:1≤l.length):Ev (gU s l) (fun r=>Sr c (n+2) r.2):=by
 obtain ⟨v,s',e,h3⟩:=XK hc (by omega) h l hl
 exact ⟨_,e,h3⟩
def dg (k:Nat):ByteArray:=⟨#[UInt8.ofNat (48+k)]⟩
def gnm (y x:Nat):ByteArray:=((⟨#[102]⟩:ByteArray)++dg y)++dg x
def Xs (l:List Int) (k:Nat):Prop:=l.length=k+1∧l.getD 0 0=0∧∀i,i<k→l.getD i 0+20≤l.getD (i+1) 0∧l.getD (i+1) 0≤l.getD i 0+219
def gP (nx:Nat) (xs ys:List Int) (i:Nat):ae:=⟨xs.getD (i % (nx+1)) 0,ys.getD (i / (nx+1)) 0⟩
def gk (nx y x:Nat):Int:=((y* (nx+1)+x:Nat):Int)
def gF1 (nx y x:Nat):aB:=⟨gnm y x,[gk nx y x,gk nx y x+1,gk nx y x+nx+2,gk nx y x+nx+1]⟩
def gF (nx:Nat) (i:Nat):aB:=gF1 nx (i / nx) (i % nx)
theorem Xs.bd {l:List Int} {k:Nat} (h:Xs l k):∀i,i≤k→0≤l.getD i 0∧l.getD i 0≤219*i:=by
 intro i
 induction i with
 | zero=>intro _;rw [h.2.1];omega
 | succ i ih=>
  intro hi
  have:=ih (by omega)
  have:=h.2.2 i (by omega)
  omega
theorem Xs.snoc {l:List Int} {k:Nat} (h:Xs l k) {v:Int} (h0:0≤v) (h1:v<200):Xs (l++[l.getD k 0+20+v]) (k+1):=by
 have hg:∀i,i≤k→(l++[l.getD k 0+20+v]).getD i 0=l.getD i 0:=by
  intro i hi
  simp only [List.getD_eq_getElem?_getD]
  rw [List.getElem?_append_left (by rw [h.1];omega)]
 refine ⟨by simp [h.1],by rw [hg 0 (by omega)];exact h.2.1,fun i hi=>?_⟩
 by_cases c:i<k
 ·rw [hg i (by omega),hg (i+1) (by omega)]
  exact h.2.2 i c
 ·have:i=k:=by omega
  subst this
  have e:(l++[l.getD i 0+20+v]).getD (i+1) 0=l.getD i 0+20+v:=by
   rw [List.getD_eq_getElem?_getD,List.getElem?_append_right (by rw [h.1];omega),h.1]
   simp
  rw [hg i (by omega),e]
  omega
theorem aba {k:Nat} (h:k<3):oQ (k:Int)=some (dg k):=by
 have h3:k=0∨k=1∨k=2:=by omega
 rcases h3 with rfl | rfl | rfl
 ·rfl
 ·have e1:iC (1,[])=some (.inl (0,[49])):=rfl
  have e2:iC (0,[49])=some (.inr [49]):=rfl
  have e:aK iC (1,[])=some [49]:=by rw [aX e1,aV e2]
  unfold oQ
  rw [if_neg (by decide)]
  have e':aK iC (((1:Nat):Int),[])=some [49]:=e
  rw [e',Option.bind_some,if_neg (by decide)]
  unfold lH
  have f1:jo [49] (0,[])=some (.inl (-1,[49])):=rfl
  have f2:jo [49] (-1,[49])=some (.inr [49]):=rfl
  have f:aK (jo [49]) (w64 ((([49]:List Int).length:Int) - 1),[])=some [49]:=by
   have g:(w64 ((([49]:List Int).length:Int) - 1),([]:List Int))=(0,[]):=rfl
   rw [g,aX f1,aV f2]
  rw [f,Option.bind_some]
  rfl
 ·have e1:iC (2,[])=some (.inl (0,[50])):=rfl
  have e2:iC (0,[50])=some (.inr [50]):=rfl
  have e:aK iC (2,[])=some [50]:=by rw [aX e1,aV e2]
  unfold oQ
  rw [if_neg (by decide)]
  have e':aK iC (((2:Nat):Int),[])=some [50]:=e
  rw [e',Option.bind_some,if_neg (by decide)]
  unfold lH
  have f1:jo [50] (0,[])=some (.inl (-1,[50])):=rfl
  have f2:jo [50] (-1,[50])=some (.inr [50]):=rfl
  have f:aK (jo [50]) (w64 ((([50]:List Int).length:Int) - 1),[])=some [50]:=by
   have g:(w64 ((([50]:List Int).length:Int) - 1),([]:List Int))=(0,[]):=rfl
   rw [g,aX f1,aV f2]
  rw [f,Option.bind_some]
  rfl
theorem Yq {c:List Int} (hc:∀x∈c,0≤x∧x≤255) {x16:Int×ai} {nx:Nat} (hx:1+x16.1=(nx:Int)) (hx3:nx≤3) {n:Int} (hn:n≤900000000):
 ∀(m k:Nat) (t:ai) (l:List Int),k+m=nx→Xs l k→Sr c (n+2*k) t→∃r,aK (iD x16) ((k:Int),t.code,t.at_,t.seed,l)=some r∧Xs r.2.2.2 nx∧Sr c (n+2*nx) ⟨r.1,r.2.1,r.2.2.1⟩:=by
 intro m
 induction m with
 | zero=>
  intro k t l hk hl ht
  refine ⟨(t.code,t.at_,t.seed,l),aV ?_,by rw [←hk];exact hl,by rw [←hk];exact ht⟩
  unfold iD
  simp only
  rw [bG (n:=1+x16.1) (by omega) (by omega),if_neg (by omega)]
 | succ m ih=>
  intro k t l hk hl ht
  obtain ⟨v,t',e,v0,v1,ht'⟩:=lq hc (by omega) ht 200
  have hb:=hl.bd k (Nat.le_refl _)
  have hk3:k<3:=by omega
  have S1:iD x16 ((k:Int),t.code,t.at_,t.seed,l)=some (.inl (((k+1:Nat):Int),t'.code,t'.at_,t'.seed,l++[l.getD k 0+20+v])):=by
   unfold iD
   simp only
   have e':aO ⟨t.code,t.at_,t.seed⟩ 200=some (v,t'):=e
   rw [bG (n:=1+x16.1) (by omega) (by omega),if_pos (by omega),Ew 0 (by rw [hl.1];omega),Option.bind_some,e',Option.bind_some,bG (n:=l.getD k 0+20) (by omega) (by omega),bG (n:=l.getD k 0+20+v) (by omega) (by omega),zO (by rw [hl.1];simp;omega),Option.bind_some,bT (by omega)]
  rw [aX S1]
  exact ih (k+1) t' _ (by omega) (hl.snoc v0 (by omega)) (ht'.mono (by omega))
theorem Zq:sJ=iD:=by
 funext x s
 rfl
theorem Zr {x16:Int×ai} {nx:Nat} (hx:1+x16.1=(nx:Int)) (hx3:nx≤3) {xs ys:List Int} (h1:xs.length=nx+1) {y:Nat} (hy:y<ys.length) (hy4:y≤3):
 ∀(m k:Nat),k+m=nx+1→aK (jF x16 xs (y:Int) ys) ((k:Int),(List.range (y* (nx+1)+k)).map (gP nx xs ys))=some ((List.range (y* (nx+1)+(nx+1))).map (gP nx xs ys)):=by
 intro m
 induction m with
 | zero=>
  intro k hk
  have:k=nx+1:=by omega
  subst this
  refine aV ?_
  unfold jF
  simp only
  rw [bG (n:=1+x16.1) (by omega) (by omega),if_neg (by omega)]
 | succ m ih=>
  intro k hk
  have hm:y* (nx+1)≤3* (nx+1):=Nat.mul_le_mul_right _ hy4
  have S1:jF x16 xs (y:Int) ys ((k:Int),(List.range (y* (nx+1)+k)).map (gP nx xs ys))=some (.inl (((k+1:Nat):Int),(List.range (y* (nx+1)+(k+1))).map (gP nx xs ys))):=by
   unfold jF
   simp only
   rw [bG (n:=1+x16.1) (by omega) (by omega),if_pos (by omega),Ew 0 (by omega),Option.bind_some,Ew 0 hy,Option.bind_some,zO (by simp;omega),Option.bind_some,bT (by omega)]
   have e1:(y* (nx+1)+k) % (nx+1)=k:=by rw [Nat.mul_comm,Nat.mul_add_mod,Nat.mod_eq_of_lt (by omega)]
   have e2:(y* (nx+1)+k) / (nx+1)=y:=by rw [Nat.mul_comm,Nat.mul_add_div (by omega),Nat.div_eq_of_lt (by omega),Nat.add_zero]
   have e3:gP nx xs ys (y* (nx+1)+k)=⟨xs.getD k 0,ys.getD y 0⟩:=by unfold gP;rw [e1,e2]
   rw [show y* (nx+1)+(k+1)=y* (nx+1)+k+1 by omega,List.range_succ,List.map_append,List.map_singleton,e3]
  rw [aX S1]
  exact ih (k+1) (by omega)
theorem XM {x16 x19:Int×ai} {nx ny:Nat} (hx:1+x16.1=(nx:Int)) (hx3:nx≤3) (hy:1+x19.1=(ny:Int)) (hy3:ny≤3) {xs ys:List Int} (h1:xs.length=nx+1) (h2:ys.length=ny+1):
 ∀(m k:Nat),k+m=ny+1→aK (jG x16 x19 xs ys) ((k:Int),(List.range (k* (nx+1))).map (gP nx xs ys))=some ((List.range ((ny+1) * (nx+1))).map (gP nx xs ys)):=by
 intro m
 induction m with
 | zero=>
  intro k hk
  have:k=ny+1:=by omega
  subst this
  refine aV ?_
  unfold jG
  simp only
  rw [bG (n:=1+x19.1) (by omega) (by omega),if_neg (by omega)]
 | succ m ih=>
  intro k hk
  have r:=Zr hx hx3 h1 (ys:=ys) (y:=k) (by omega) (by omega) (nx+1) 0 (by omega)
  rw [Nat.add_zero] at r
  have r:aK (jF x16 xs (k:Int) ys) (0,(List.range (k* (nx+1))).map (gP nx xs ys))=_:=r
  have S1:jG x16 x19 xs ys ((k:Int),(List.range (k* (nx+1))).map (gP nx xs ys))=some (.inl (((k+1:Nat):Int),(List.range ((k+1) * (nx+1))).map (gP nx xs ys))):=by
   unfold jG
   simp only
   rw [bG (n:=1+x19.1) (by omega) (by omega),if_pos (by omega),r,Option.bind_some,bT (by omega),Nat.succ_mul]
  rw [aX S1]
  exact ih (k+1) (by omega)
theorem XN {x16:Int×ai} {nx:Nat} (hx:1+x16.1=(nx:Int)) (hx1:1≤nx) (hx3:nx≤3) {y:Nat} (hy:y<3):
 ∀(m k:Nat),k+m=nx→aK (jD x16 (y:Int)) ((k:Int),(List.range (y*nx+k)).map (gF nx))=some ((List.range (y*nx+nx)).map (gF nx)):=by
 intro m
 induction m with
 | zero=>
  intro k hk
  have:k=nx:=by omega
  subst this
  refine aV ?_
  unfold jD
  simp only
  rw [bG (n:=1+x16.1) (by omega) (by omega),if_neg (by omega)]
 | succ m ih=>
  intro k hk
  have hm:y*nx≤2*nx:=Nat.mul_le_mul_right _ (by omega)
  have hm2:y* (nx+1)≤2* (nx+1):=Nat.mul_le_mul_right _ (by omega)
  have g1:(y:Int) * (nx+1)=((y* (nx+1):Nat):Int):=by push_cast;rfl
  have S1:jD x16 (y:Int) ((k:Int),(List.range (y*nx+k)).map (gF nx))=some (.inl (((k+1:Nat):Int),(List.range (y*nx+(k+1))).map (gF nx))):=by
   unfold jD
   simp only
   have e0:w64 (1+x16.1)=(nx:Int):=by rw [bG (by omega) (by omega)];exact hx
   have e1:w64 ((nx:Int)+1)=(nx:Int)+1:=bG (by omega) (by omega)
   rw [e0,if_pos (by omega),e1,g1,bG (n:=((y* (nx+1):Nat):Int)) (by omega) (by omega),bG (n:=((y* (nx+1):Nat):Int)+(k:Int)) (by omega) (by omega),bG (n:=((y* (nx+1):Nat):Int)+(k:Int)+1) (by omega) (by omega),bG (n:=((y* (nx+1):Nat):Int)+(k:Int)+(nx:Int)) (by omega) (by omega),bG (n:=((y* (nx+1):Nat):Int)+(k:Int)+(nx:Int)+2) (by omega) (by omega),bG (n:=((y* (nx+1):Nat):Int)+(k:Int)+(nx:Int)+1) (by omega) (by omega),
    aba hy,Option.bind_some,AP (by show 1+1≤_;omega),Option.bind_some,aba (by omega),Option.bind_some,AP (by rw [ByteArray.size_append];show (1+1)+1≤_;omega),Option.bind_some,zO (by simp;omega),Option.bind_some,bT (by omega)]
   have d1:(y*nx+k) % nx=k:=by rw [Nat.mul_comm,Nat.mul_add_mod,Nat.mod_eq_of_lt (by omega)]
   have d2:(y*nx+k) / nx=y:=by rw [Nat.mul_comm,Nat.mul_add_div (by omega),Nat.div_eq_of_lt (by omega),Nat.add_zero]
   have e3:gF nx (y*nx+k)=gF1 nx y k:=by unfold gF;rw [d1,d2]
   have e4:((y* (nx+1):Nat):Int)+(k:Int)=gk nx y k:=by unfold gk;omega
   rw [show y*nx+(k+1)=y*nx+k+1 by omega,List.range_succ,List.map_append,List.map_singleton,e3,e4]
   rfl
  rw [aX S1]
  exact ih (k+1) (by omega)
theorem VA {x16 x19:Int×ai} {nx ny:Nat} (hx:1+x16.1=(nx:Int)) (hx1:1≤nx) (hx3:nx≤3) (hy:1+x19.1=(ny:Int)) (hy3:ny≤3):
 ∀(m k:Nat),k+m=ny→aK (jE x16 x19) ((k:Int),(List.range (k*nx)).map (gF nx))=some ((List.range (ny*nx)).map (gF nx)):=by
 intro m
 induction m with
 | zero=>
  intro k hk
  have:k=ny:=by omega
  subst this
  refine aV ?_
  unfold jE
  simp only
  rw [bG (n:=1+x19.1) (by omega) (by omega),if_neg (by omega)]
 | succ m ih=>
  intro k hk
  have r:=XN hx hx1 hx3 (y:=k) (by omega) nx 0 (by omega)
  rw [Nat.add_zero] at r
  have r:aK (jD x16 (k:Int)) (0,(List.range (k*nx)).map (gF nx))=_:=r
  have S1:jE x16 x19 ((k:Int),(List.range (k*nx)).map (gF nx))=some (.inl (((k+1:Nat):Int),(List.range ((k+1) *nx)).map (gF nx))):=by
   unfold jE
   simp only
   rw [bG (n:=1+x19.1) (by omega) (by omega),if_pos (by omega),r,Option.bind_some,bT (by omega),Nat.succ_mul]
  rw [aX S1]
  exact ih (k+1) (by omega)
theorem XO {c:List Int} (hc:∀x∈c,0≤x∧x≤255) {n:Int} (hn:n≤800000000) {s:ai} (h:Sr c n s):
 ∃(nx ny:Nat) (xs ys:List Int) (s':ai),1≤nx∧nx≤3∧1≤ny∧ny≤3∧Xs xs nx∧Xs ys ny∧Sr c (n+20) s'∧
  ru s=some (⟨xs.getD nx 0,ys.getD ny 0,(List.range ((ny+1) * (nx+1))).map (gP nx xs ys),(List.range (ny*nx)).map (gF nx)⟩,s'):=by
 obtain ⟨v1,s1,e1,a0,a1,h1⟩:=lq hc (by omega) h 3
 obtain ⟨v2,s2,e2,b0,b1,h2⟩:=lq hc (by omega) h1 3
 obtain ⟨nx,hx⟩:∃nx:Nat,1+v1=(nx:Int):=⟨(1+v1).toNat,by omega⟩
 obtain ⟨ny,hy⟩:∃ny:Nat,1+v2=(ny:Int):=⟨(1+v2).toNat,by omega⟩
 obtain ⟨⟨p1,p2,p3,xs⟩,q1,q2,q3⟩:=Yq hc (x16:=(v1,s1)) hx (by omega) (n:=n+4) (by omega) nx 0 s2 [0] (by omega) ⟨rfl,rfl,fun i hi=>by omega⟩ (h2.mono (by omega))
 obtain ⟨⟨r1,r2,r3,ys⟩,t1,t2,t3⟩:=Yq hc (x16:=(v2,s2)) hy (by omega) (n:=n+10) (by omega) ny 0 ⟨p1,p2,p3⟩ [0] (by omega) ⟨rfl,rfl,fun i hi=>by omega⟩ (q3.mono (by omega))
 have q1:aK (iD (v1,s1)) (0,s2.code,s2.at_,s2.seed,[0])=_:=q1
 have t1:aK (iD (v2,s2)) (0,p1,p2,p3,[0])=_:=t1
 have u1:=XM (x16:=(v1,s1)) (x19:=(v2,s2)) hx (by omega) hy (by omega) q2.1 t2.1 (ny+1) 0 (by omega)
 have u2:=VA (x16:=(v1,s1)) (x19:=(v2,s2)) hx (by omega) (by omega) hy (by omega) ny 0 (by omega)
 rw [Nat.zero_mul] at u1 u2
 have u1:aK (jG (v1,s1) (v2,s2) xs ys) (0,[])=_:=u1
 have u2:aK (jE (v1,s1) (v2,s2)) (0,[])=_:=u2
 refine ⟨nx,ny,xs,ys,⟨r1,r2,r3⟩,by omega,by omega,by omega,by omega,q2,t2,t3.mono (by omega),?_⟩
 unfold ru
 rw [e1,Option.bind_some,e2,Option.bind_some,q1,Option.bind_some]
 simp only
 rw [Zq,t1,Option.bind_some]
 simp only
 rw [bG (n:=1+v1) (by omega) (by omega),bG (n:=1+v2) (by omega) (by omega),hx,hy,Ew 0 (by rw [q2.1];omega),Option.bind_some,Ew 0 (by rw [t2.1];omega),Option.bind_some,u1,Option.bind_some,u2,Option.bind_some]
def nmB (a:ByteArray):ByteArray:=a++(⟨#[98]⟩:ByteArray)
def N2 (L:List ByteArray):List ByteArray:=L.flatMap fun a=>[a,nmB a]
def Lt (a b:ByteArray):Prop:=Op.bytesLess a.toList b.toList=true
def FOK (pts:List ae) (f:aB):Prop:=jX f.Name=some true∧f.Name.size≤10∧f.Ring.length≤4∧∃poly,iO pts f.Ring=some (poly,true)∧fF poly=some true
def Base (pts:List ae) (f:aB):Prop:=∃a b c d,f.Ring=[a,b,c,d]∧FOK pts f∧FOK pts ⟨f.Name,[a,b,c]⟩∧FOK pts ⟨nmB f.Name,[a,c,d]⟩
structure DOK (d:aG):Prop where
 w:10≤d.Width∧d.Width≤20000
 h:10≤d.Height∧d.Height≤20000
 pl:d.aH.length≤48
 pl0:2≤d.aH.length
 pin:∀p∈d.aH,0≤p.X∧p.X≤d.Width∧0≤p.Y∧p.Y≤d.Height
 pdf:∀(i j:Nat) (hi:i<d.aH.length) (hj:j<i),¬(d.aH[i].X=(d.aH[j]'(by omega)).X∧d.aH[i].Y=(d.aH[j]'(by omega)).Y)
 fl:d.aA.length≤24
 fl0:1≤d.aA.length
 fn:(d.aA.map (·.Name)).Pairwise Lt
 fok:∀f∈d.aA,FOK d.aH f
theorem Zt {α:Type} {l:List α} {i:Int} {y:α} (h:rd l i=some y):0≤i∧l[i.toNat]?=some y:=by
 unfold rd at h
 split at h
 ·exact ⟨by assumption,h⟩
 ·cases h
theorem IW {pts q:List ae} {ring:List Int} (hl:ring.length=q.length) (hr:ring.length≤100) (hp:pts.length≤1000) (h:∀(j:Nat) (hj:j<ring.length),rd pts ring[j]=some (q[j]'(by omega))):iO pts ring=some (q,true):=by
 have e:aK (ik pts ring) (0,[])=some (.inl q):=by
  have:=lG (f:=ik pts ring) (fun i:Nat=>((i:Int),q.take i)) ring.length (r:= .inl q) (fun i hi=>by
   have hx:=h i hi
   obtain ⟨x0,x1⟩:=Zt hx
   have x2:ring[i].toNat<pts.length:=by
    rcases Nat.lt_or_ge ring[i].toNat pts.length with h' | h'
    ·exact h'
    ·rw [List.getElem?_eq_none h'] at x1;cases x1
   unfold ik
   simp only
   rw [if_pos (by omega),jm hi,Option.bind_some,oh,bG (n:=(pts.length:Int) - 1) (by omega) (by omega),decide_eq_true ⟨x0,by omega⟩,Option.bind_some,if_pos rfl,hx,Option.bind_some,zO (by rw [List.length_take];simp;omega),Option.bind_some,bT (by omega)]
   rw [List.take_succ_eq_append_getElem (by omega)]) (by
   unfold ik
   simp only
   rw [if_neg (by omega),hl,List.take_length])
  simpa using this
 unfold iO
 rw [e]
 rfl
theorem acO {x0 x1 y0 y1:Int} (hx:x0<x1) (hy:y0<y1):0<cr ⟨x0,y0⟩ ⟨x1,y0⟩ ⟨x1,y1⟩∧0<cr ⟨x1,y0⟩ ⟨x1,y1⟩ ⟨x0,y1⟩∧0<cr ⟨x1,y1⟩ ⟨x0,y1⟩ ⟨x0,y0⟩∧0<cr ⟨x0,y1⟩ ⟨x0,y0⟩ ⟨x1,y0⟩:=by
 have m:0< (x1 - x0) * (y1 - y0):=Int.mul_pos (by omega) (by omega)
 have a1:=Int.mul_comm y0 x0
 have a2:=Int.mul_comm y0 x1
 have a3:=Int.mul_comm y1 x0
 have a4:=Int.mul_comm y1 x1
 unfold cr
 simp only [Int.sub_mul,Int.mul_sub] at m ⊢
 refine ⟨?_,?_,?_,?_⟩<;>omega
theorem Zu {s:ByteArray} (h1:1≤s.size) (h2:s.size≤10) (h0:∃v,bt s 0=some v∧97≤v∧v≤122) (h3:∀i:Nat,i<s.size→∃v,bt s (i:Int)=some v∧((97≤v∧v≤122)∨(48≤v∧v≤57))):jX s=some true:=by
 obtain ⟨v,v1,v2,v3⟩:=h0
 have e:aK (iZ s) 0=some (.inl ()):=by
  refine lG (f:=iZ s) (fun i:Nat=>(i:Int)) s.size (fun i hi=>?_) ?_
  ·obtain ⟨v,v1,v2⟩:=h3 i hi
   unfold iZ
   rw [if_pos (by omega),v1]
   simp only [Option.bind_some]
   rcases v2 with v2 | v2
   ·rw [if_neg (by omega),if_neg (by omega)]
    simp only [Option.bind_some,Bool.false_eq_true,if_false]
    rw [bT (by omega)]
   ·rw [if_pos (by omega),if_neg (by omega)]
    simp only [Option.bind_some]
    rw [decide_eq_false (by omega)]
    simp only [Bool.false_eq_true,if_false]
    rw [bT (by omega)]
  ·unfold iZ
   rw [if_neg (by omega)]
 unfold jX
 rw [if_neg (by omega),if_neg (by omega),v1]
 simp only [Option.bind_some]
 rw [if_neg (by omega),decide_eq_false (by omega)]
 simp only [Option.bind_some,Bool.false_eq_true,if_false]
 rw [e]
 rfl
theorem VB {y x:Nat} (hy:y<3) (hx:x<3):jX (gnm y x)=some true∧(gnm y x).size=3∧jX (nmB (gnm y x))=some true∧(nmB (gnm y x)).size=4:=by
 have hy3:y=0∨y=1∨y=2:=by omega
 have hx3:x=0∨x=1∨x=2:=by omega
 have key:∀s:ByteArray,s.size≤4→1≤s.size→(∃v,bt s 0=some v∧97≤v∧v≤122)→(1<s.size→∃v,bt s 1=some v∧((97≤v∧v≤122)∨(48≤v∧v≤57)))→(2<s.size→∃v,bt s 2=some v∧((97≤v∧v≤122)∨(48≤v∧v≤57)))→(3<s.size→∃v,bt s 3=some v∧((97≤v∧v≤122)∨(48≤v∧v≤57)))→jX s=some true:=by
  intro s h1 h2 h3 h4 h5 h6
  refine Zu h2 (by omega) h3 fun i hi=>?_
  have:i=0∨i=1∨i=2∨i=3:=by omega
  rcases this with rfl | rfl | rfl | rfl
  ·obtain ⟨v,q1,q2,q3⟩:=h3
   exact ⟨v,q1,.inl ⟨q2,q3⟩⟩
  ·exact h4 hi
  ·exact h5 hi
  ·exact h6 hi
 rcases hy3 with rfl | rfl | rfl<;>rcases hx3 with rfl | rfl | rfl<;>
  exact ⟨key _ (by decide) (by decide) ⟨_,rfl,by decide,by decide⟩ (fun _=>⟨_,rfl,by decide⟩) (fun _=>⟨_,rfl,by decide⟩) (fun h=>absurd h (by decide)),rfl,
   key _ (by decide) (by decide) ⟨_,rfl,by decide,by decide⟩ (fun _=>⟨_,rfl,by decide⟩) (fun _=>⟨_,rfl,by decide⟩) (fun _=>⟨_,rfl,by decide⟩),rfl⟩
theorem VC {nx ny:Nat} (h1:1≤nx) (h3:nx≤3) (k1:1≤ny) (k3:ny≤3):(N2 ((List.range (ny*nx)).map fun i=>gnm (i / nx) (i % nx))).Pairwise Lt:=by
 have hx:nx=1∨nx=2∨nx=3:=by omega
 have hy:ny=1∨ny=2∨ny=3:=by omega
 unfold Lt
 rcases hx with rfl | rfl | rfl<;>rcases hy with rfl | rfl | rfl<;>decide+kernel
theorem Q3 {nx ny i:Nat} {xs ys:List Int} (hi:i< (ny+1) * (nx+1)):rd ((List.range ((ny+1) * (nx+1))).map (gP nx xs ys)) (i:Int)=some (gP nx xs ys i):=by
 rw [jm (by simpa using hi),List.getElem_map,List.getElem_range]
theorem Q4 {nx y x:Nat} {xs ys:List Int} (hx:x≤nx):gP nx xs ys (y* (nx+1)+x)=⟨xs.getD x 0,ys.getD y 0⟩:=by
 have e1:(y* (nx+1)+x) % (nx+1)=x:=by rw [Nat.mul_comm,Nat.mul_add_mod,Nat.mod_eq_of_lt (by omega)]
 have e2:(y* (nx+1)+x) / (nx+1)=y:=by rw [Nat.mul_comm,Nat.mul_add_div (by omega),Nat.div_eq_of_lt (by omega),Nat.add_zero]
 unfold gP
 rw [e1,e2]
theorem NT {nx ny:Nat} (hx:nx≤3) (hy:ny≤3):(ny+1) * (nx+1)≤16:=by
 have:=Nat.mul_le_mul (show ny+1≤4 by omega) (show nx+1≤4 by omega)
 omega
theorem XP {nx ny:Nat} {xs ys:List Int} (hx3:nx≤3) (hy3:ny≤3) (hX:Xs xs nx) (hY:Xs ys ny) {y x:Nat} (hy:y<ny) (hx:x<nx):
 Base ((List.range ((ny+1) * (nx+1))).map (gP nx xs ys)) (gF1 nx y x):=by
 obtain ⟨n1,n2,n3,n4⟩:=VB (y:=y) (x:=x) (by omega) (by omega)
 have hpl:=NT hx3 hy3
 have b0:=hX.bd x (by omega)
 have b1:=hX.bd (x+1) (by omega)
 have b2:=hY.bd y (by omega)
 have b3:=hY.bd (y+1) (by omega)
 have g1:=(hX.2.2 x hx).1
 have g2:=(hY.2.2 y hy).1
 have hm:(y+1) * (nx+1)≤ny* (nx+1):=Nat.mul_le_mul_right _ (by omega)
 have hm1:(ny+1) * (nx+1)=ny* (nx+1)+(nx+1):=Nat.succ_mul _ _
 have hm2:(y+1) * (nx+1)=y* (nx+1)+(nx+1):=Nat.succ_mul _ _
 have r0:rd ((List.range ((ny+1) * (nx+1))).map (gP nx xs ys)) (gk nx y x)=some ⟨xs.getD x 0,ys.getD y 0⟩:=by
  unfold gk
  rw [Q3 (by omega),Q4 (by omega)]
 have r1:rd ((List.range ((ny+1) * (nx+1))).map (gP nx xs ys)) (gk nx y x+1)=some ⟨xs.getD (x+1) 0,ys.getD y 0⟩:=by
  have e:gk nx y x+1=((y* (nx+1)+(x+1):Nat):Int):=by unfold gk;omega
  rw [e,Q3 (by omega),Q4 (by omega)]
 have r2:rd ((List.range ((ny+1) * (nx+1))).map (gP nx xs ys)) (gk nx y x+nx+2)=some ⟨xs.getD (x+1) 0,ys.getD (y+1) 0⟩:=by
  have e:gk nx y x+nx+2=(((y+1) * (nx+1)+(x+1):Nat):Int):=by unfold gk;rw [hm2];omega
  rw [e,Q3 (by omega),Q4 (by omega)]
 have r3:rd ((List.range ((ny+1) * (nx+1))).map (gP nx xs ys)) (gk nx y x+nx+1)=some ⟨xs.getD x 0,ys.getD (y+1) 0⟩:=by
  have e:gk nx y x+nx+1=(((y+1) * (nx+1)+x:Nat):Int):=by unfold gk;rw [hm2];omega
  rw [e,Q3 (by omega),Q4 (by omega)]
 obtain ⟨c1,c2,c3,c4⟩:=acO (x0:=xs.getD x 0) (x1:=xs.getD (x+1) 0) (y0:=ys.getD y 0) (y1:=ys.getD (y+1) 0) (by omega) (by omega)
 have p0:Pt ⟨xs.getD x 0,ys.getD y 0⟩:=⟨by show 0≤xs.getD x 0;omega,by show xs.getD x 0≤20000;omega,by show 0≤ys.getD y 0;omega,by show ys.getD y 0≤20000;omega⟩
 have p1:Pt ⟨xs.getD (x+1) 0,ys.getD y 0⟩:=⟨by show 0≤xs.getD (x+1) 0;omega,by show xs.getD (x+1) 0≤20000;omega,by show 0≤ys.getD y 0;omega,by show ys.getD y 0≤20000;omega⟩
 have p2:Pt ⟨xs.getD (x+1) 0,ys.getD (y+1) 0⟩:=⟨by show 0≤xs.getD (x+1) 0;omega,by show xs.getD (x+1) 0≤20000;omega,by show 0≤ys.getD (y+1) 0;omega,by show ys.getD (y+1) 0≤20000;omega⟩
 have p3:Pt ⟨xs.getD x 0,ys.getD (y+1) 0⟩:=⟨by show 0≤xs.getD x 0;omega,by show xs.getD x 0≤20000;omega,by show 0≤ys.getD (y+1) 0;omega,by show ys.getD (y+1) 0≤20000;omega⟩
 have hlen:((List.range ((ny+1) * (nx+1))).map (gP nx xs ys)).length≤1000:=by rw [List.length_map,List.length_range];omega
 refine ⟨_,_,_,_,rfl,⟨n1,by show (gnm y x).size≤10;omega,by show 4≤4;omega,_,IW (q:=[_,_,_,_]) rfl (by show 4≤100;omega) hlen ?_,aa9 p0 p1 p2 p3 c1 c2 c3 c4⟩,
  ⟨n1,by show (gnm y x).size≤10;omega,by show 3≤4;omega,_,IW (q:=[_,_,_]) rfl (by show 3≤100;omega) hlen ?_,Yp p0 p1 p2 c1⟩,⟨n3,by show (nmB (gnm y x)).size≤10;omega,by show 3≤4;omega,_,IW (q:=[_,_,_]) rfl (by show 3≤100;omega) hlen ?_,Yp p0 p2 p3 (by rw [←zQ];exact c3)⟩⟩
 ·intro j hj
  have hj4:j<4:=hj
  have:j=0∨j=1∨j=2∨j=3:=by omega
  rcases this with rfl | rfl | rfl | rfl
  ·exact r0
  ·exact r1
  ·exact r2
  ·exact r3
 ·intro j hj
  have hj4:j<3:=hj
  have:j=0∨j=1∨j=2:=by omega
  rcases this with rfl | rfl | rfl
  ·exact r0
  ·exact r1
  ·exact r2
 ·intro j hj
  have hj4:j<3:=hj
  have:j=0∨j=1∨j=2:=by omega
  rcases this with rfl | rfl | rfl
  ·exact r0
  ·exact r2
  ·exact r3
theorem Xs.mono {l:List Int} {k:Nat} (h:Xs l k):∀{i j:Nat},i<j→j≤k→l.getD i 0<l.getD j 0:=by
 intro i j
 induction j with
 | zero=>intro h;omega
 | succ j ih=>
  intro hij hj
  have g:=(h.2.2 j (by omega)).1
  by_cases e:i=j
  ·subst e;omega
  ·have:=ih (by omega) (by omega)
   omega
theorem Xs.inj {l:List Int} {k:Nat} (h:Xs l k) {i j:Nat} (hi:i≤k) (hj:j≤k) (e:l.getD i 0=l.getD j 0):i=j:=by
 rcases Nat.lt_trichotomy i j with h1 | h1 | h1
 ·have:=h.mono h1 hj;omega
 ·exact h1
 ·have:=h.mono h1 hi;omega
def Cut (pts:List ae) (L:List ByteArray) (n:Nat) (out:List aB):Prop:=out.length≤2*n∧n≤out.length∧List.Sublist (out.map (·.Name)) (N2 L)∧∀f∈out,FOK pts f
theorem NU {nx ny:Nat} {xs ys:List Int} (hx1:1≤nx) (hx3:nx≤3) (hy1:1≤ny) (hy3:ny≤3) (hX:Xs xs nx) (hY:Xs ys ny) {out:List aB}
 (ho:Cut ((List.range ((ny+1) * (nx+1))).map (gP nx xs ys)) ((List.range (ny*nx)).map fun i=>gnm (i / nx) (i % nx)) (ny*nx) out):
 DOK ⟨xs.getD nx 0,ys.getD ny 0,(List.range ((ny+1) * (nx+1))).map (gP nx xs ys),out⟩:=by
 obtain ⟨o1,o2,o3,o4⟩:=ho
 have hpl:=NT hx3 hy3
 have hfl:ny*nx≤9:=by have:=Nat.mul_le_mul hy3 hx3;omega
 have aeA:1≤ny*nx:=Nat.mul_le_mul hy1 hx1
 have hpl2:4≤(ny+1) * (nx+1):=Nat.mul_le_mul (show 2≤ny+1 by omega) (show 2≤nx+1 by omega)
 have b0:=hX.bd nx (Nat.le_refl _)
 have b1:=hY.bd ny (Nat.le_refl _)
 have c0:=hX.mono (i:=0) (j:=1) (by omega) (by omega)
 have w0:xs.getD 0 0+20≤xs.getD 1 0:=(hX.2.2 0 (by omega)).1
 have w1:ys.getD 0 0+20≤ys.getD 1 0:=(hY.2.2 0 (by omega)).1
 have z0:=hX.2.1
 have z1:=hY.2.1
 have le1:∀{l:List Int} {k:Nat},Xs l k→∀{i:Nat},i≤k→l.getD i 0≤l.getD k 0:=by
  intro l k h i hi
  by_cases e:i=k
  ·subst e;omega
  ·have:=h.mono (show i<k by omega) (Nat.le_refl _)
   omega
 have l1:=le1 hX hx1
 have l2:=le1 hY hy1
 refine {w:=⟨by show 10≤xs.getD nx 0;omega,by show xs.getD nx 0≤20000;omega⟩,h:=⟨by show 10≤ys.getD ny 0;omega,by show ys.getD ny 0≤20000;omega⟩,pl:=?_,pl0:=?_,pin:=?_,pdf:=?_,fl:=by show out.length≤24;omega,fl0:=by show 1≤out.length;omega,fn:=(VC hx1 hx3 hy1 hy3).sublist o3,fok:=o4}
 ·show ((List.range ((ny+1) * (nx+1))).map (gP nx xs ys)).length≤48
  rw [List.length_map,List.length_range];omega
 ·show 2≤((List.range ((ny+1) * (nx+1))).map (gP nx xs ys)).length
  rw [List.length_map,List.length_range];omega
 ·intro p hp
  have hp:p∈(List.range ((ny+1) * (nx+1))).map (gP nx xs ys):=hp
  obtain ⟨i,hi,rfl⟩:=List.mem_map.1 hp
  have hi:=List.mem_range.1 hi
  have h1:i % (nx+1)≤nx:=by have:=Nat.mod_lt i (show 0<nx+1 by omega);omega
  have h2:i / (nx+1)≤ny:=by
   have:=Nat.div_lt_of_lt_mul (show i< (nx+1) * (ny+1) by rw [Nat.mul_comm];exact hi)
   omega
  exact ⟨(hX.bd _ h1).1,le1 hX h1,(hY.bd _ h2).1,le1 hY h2⟩
 ·intro i j hi hj
  have hi:i< ((List.range ((ny+1) * (nx+1))).map (gP nx xs ys)).length:=hi
  rw [List.length_map,List.length_range] at hi
  show ¬(((List.range ((ny+1) * (nx+1))).map (gP nx xs ys))[i].X=((List.range ((ny+1) * (nx+1))).map (gP nx xs ys))[j].X∧((List.range ((ny+1) * (nx+1))).map (gP nx xs ys))[i].Y=((List.range ((ny+1) * (nx+1))).map (gP nx xs ys))[j].Y)
  rw [List.getElem_map,List.getElem_map,List.getElem_range,List.getElem_range]
  rintro ⟨e1,e2⟩
  have h1:∀k:Nat,k % (nx+1)≤nx:=fun k=>by have:=Nat.mod_lt k (show 0<nx+1 by omega);omega
  have h2:∀k:Nat,k< (ny+1) * (nx+1)→k / (nx+1)≤ny:=fun k hk=>by
   have:=Nat.div_lt_of_lt_mul (show k< (nx+1) * (ny+1) by rw [Nat.mul_comm];exact hk)
   omega
  have f1:=hX.inj (h1 i) (h1 j) e1
  have f2:=hY.inj (h2 i hi) (h2 j (by omega)) e2
  have d1:=Nat.div_add_mod i (nx+1)
  have d2:=Nat.div_add_mod j (nx+1)
  rw [f1,f2] at d1
  omega
theorem Zv {c:List Int} (hc:∀x∈c,0≤x∧x≤255) {n:Int} (hn:n≤800000000) {d:aG} (hl:d.aA.length≤9) (hB:∀f∈d.aA,Base d.aH f):
 ∀(m k:Nat) (t:ai) (out:List aB),k+m=d.aA.length→Cut d.aH ((d.aA.take k).map (·.Name)) k out→Sr c (n+2*k) t→
  ∃r,aK (kV d) ((k:Int),t.code,t.at_,t.seed,out)=some r∧Cut d.aH (d.aA.map (·.Name)) d.aA.length r.2.2.2∧Sr c (n+2*d.aA.length) ⟨r.1,r.2.1,r.2.2.1⟩:=by
 intro m
 induction m with
 | zero=>
  intro k t out hk ho ht
  have hk:k=d.aA.length:=by omega
  subst hk
  rw [List.take_length] at ho
  refine ⟨(t.code,t.at_,t.seed,out),aV ?_,ho,ht⟩
  unfold kV
  simp only
  rw [if_neg (by omega)]
 | succ m ih=>
  intro k t out hk ho ht
  have hk':k<d.aA.length:=by omega
  obtain ⟨a,b,cc,dd,hr,f1,f2,f3⟩:=hB _ (List.getElem_mem hk')
  obtain ⟨v,t',e,ht'⟩:=O7 hc (by omega) ht 3
  have e':gK ⟨t.code,t.at_,t.seed⟩ 3=some (v,t'):=e
  obtain ⟨o1,o2,o3,o4⟩:=ho
  have hsz:=f1.2.1
  have hN:N2 ((d.aA.take (k+1)).map (·.Name))=N2 ((d.aA.take k).map (·.Name))++[d.aA[k].Name,nmB d.aA[k].Name]:=by
   unfold N2
   rw [List.take_succ_eq_append_getElem hk',List.map_append,List.flatMap_append]
   rfl
  have S1:∃out',kV d ((k:Int),t.code,t.at_,t.seed,out)=some (.inl (((k+1:Nat):Int),t'.code,t'.at_,t'.seed,out'))∧Cut d.aH ((d.aA.take (k+1)).map (·.Name)) (k+1) out':=by
   unfold kV oV
   simp only
   rw [if_pos (by omega),jm hk',Option.bind_some,hr,if_pos (by rfl),e']
   simp only [Option.bind_some]
   cases v with
   | true=>
    rw [if_pos rfl]
    have q0:rd [a,b,cc,dd] 0=some a:=rfl
    have q1:rd [a,b,cc,dd] 1=some b:=rfl
    have q2:rd [a,b,cc,dd] 2=some cc:=rfl
    have q3:rd [a,b,cc,dd] 3=some dd:=rfl
    simp only [q0,q1,q2,q3,Option.bind_some]
    rw [zO (by simp;omega),Option.bind_some,AP (by show _+1≤_;omega),Option.bind_some,zO (by simp;omega),Option.bind_some,bT (by omega)]
    refine ⟨_,rfl,by simp;omega,by simp;omega,?_,?_⟩
    ·rw [hN,List.map_append,List.map_append,List.append_assoc]
     exact o3.append (List.Sublist.refl _)
    ·intro f hf
     rcases List.mem_append.1 hf with hf | hf
     ·rcases List.mem_append.1 hf with hf | hf
      ·exact o4 f hf
      ·rw [List.mem_singleton.1 hf];exact f2
     ·rw [List.mem_singleton.1 hf];exact f3
   | false=>
    rw [if_neg (by decide),zO (by simp;omega),Option.bind_some,bT (by omega)]
    refine ⟨_,rfl,by simp;omega,by simp;omega,?_,?_⟩
    ·rw [hN,List.map_append]
     exact o3.append (by simp)
    ·intro f hf
     rcases List.mem_append.1 hf with hf | hf
     ·exact o4 f hf
     ·rw [List.mem_singleton.1 hf];exact f1
  obtain ⟨out',s1,s2⟩:=S1
  rw [aX s1]
  exact ih (k+1) t' out' (by omega) s2 (ht'.mono (by omega))
theorem VD {c:List Int} (hc:∀x∈c,0≤x∧x≤255) {n:Int} (hn:n≤700000000) {s:ai} (h:Sr c n s):∃d s',rC s=some (d,s')∧DOK d∧Sr c (n+50) s':=by
 obtain ⟨nx,ny,xs,ys,s1,g1,g2,g3,g4,g5,g6,g7,g8⟩:=XO hc (by omega) h
 obtain ⟨v,s2,e2,h2⟩:=O7 hc (by omega) g7 2
 have hB:∀f∈(List.range (ny*nx)).map (gF nx),Base ((List.range ((ny+1) * (nx+1))).map (gP nx xs ys)) f:=by
  intro f hf
  obtain ⟨i,hi,rfl⟩:=List.mem_map.1 hf
  have hi:=List.mem_range.1 hi
  exact XP g2 g4 g5 g6 (Nat.div_lt_of_lt_mul (by rw [Nat.mul_comm];exact hi)) (Nat.mod_lt _ (by omega))
 have hnm:((List.range (ny*nx)).map (gF nx)).map (·.Name)=(List.range (ny*nx)).map fun i=>gnm (i / nx) (i % nx):=by
  rw [List.map_map];rfl
 have hfl:ny*nx≤9:=by have:=Nat.mul_le_mul g4 g2;omega
 unfold rC nO
 rw [g8,Option.bind_some]
 simp only
 rw [e2,Option.bind_some]
 cases v with
 | false=>
  simp only [Bool.false_eq_true,if_false]
  refine ⟨_,_,rfl,NU g1 g2 g3 g4 g5 g6 ⟨by rw [List.length_map,List.length_range];omega,by rw [List.length_map,List.length_range];omega,?_,fun f hf=>?_⟩,h2.mono (by omega)⟩
  ·rw [hnm]
   unfold N2
   generalize (List.range (ny*nx)).map (fun i=>gnm (i / nx) (i % nx))=L
   induction L with
   | nil=>exact List.Sublist.slnil
   | cons a L ih=>
    rw [List.flatMap_cons]
    exact List.Sublist.cons_cons _ (List.Sublist.cons _ ih)
  ·obtain ⟨_,_,_,_,_,f1,_⟩:=hB f hf
   exact f1
 | true=>
  simp only [if_true]
  have hd:((⟨xs.getD nx 0,ys.getD ny 0,(List.range ((ny+1) * (nx+1))).map (gP nx xs ys),(List.range (ny*nx)).map (gF nx)⟩:aG)).aA.length≤9:=by
   show ((List.range (ny*nx)).map (gF nx)).length≤9
   rw [List.length_map,List.length_range];exact hfl
  obtain ⟨⟨r1,r2,r3,out⟩,q1,q2,q3⟩:=Zv hc (n:=n+22) (by omega) hd hB _ 0 s2 [] (Nat.zero_add _) ⟨by simp,by simp,by simp [N2],by simp⟩ (h2.mono (by omega))
  have q1:aK (kV ⟨xs.getD nx 0,ys.getD ny 0,(List.range ((ny+1) * (nx+1))).map (gP nx xs ys),(List.range (ny*nx)).map (gF nx)⟩) (0,s2.code,s2.at_,s2.seed,[])=_:=q1
  unfold xP
  rw [q1]
  simp only [Option.bind_some]
  simp only [List.length_map,List.length_range] at q2 q3
  rw [hnm] at q2
  exact ⟨_,_,rfl,NU g1 g2 g3 g4 g5 g6 q2,q3.mono (by omega)⟩
def SB (d:aG):Prop:=d.aH.length≤100∧d.aA.length≤100∧∀f∈d.aA,f.Name.size≤20∧f.Ring.length≤10
theorem SB.bd {d:aG} (h:SB d):lT d:=by
 obtain ⟨h1,h2,h3⟩:=h
 refine ⟨trivial,trivial,⟨by omega,fun a _=>⟨trivial,trivial⟩⟩,by omega,fun a ha=>?_⟩
 obtain ⟨k1,k2⟩:=h3 a ha
 exact ⟨by omega,by omega,fun _ _=>trivial⟩
theorem DOK.sb {d:aG} (h:DOK d):SB d:=by
 have h1:=h.pl
 have h2:=h.fl
 refine ⟨by omega,by omega,fun f hf=>?_⟩
 obtain ⟨_,k1,k2,_⟩:=h.fok f hf
 exact ⟨by omega,by omega⟩
theorem acP {α:Type} {l:List α} (h:1≤l.length):slc l 1 (l.length:Int)=some ((l.take ((l.length:Int).toNat)).drop ((1:Int).toNat)):=by
 unfold slc
 rw [if_pos ⟨by omega,by omega,by omega⟩]
theorem XQ {c:List Int} (hc:∀x∈c,0≤x∧x≤255) {n:Int} (hn:n≤999999999) {s:ai} (h:Sr c n s) (l:List ByteArray) (hl:1≤l.length):∃v s',gU s l=some (v,s')∧v∈l∧Sr c (n+2) s':=by
 obtain ⟨v,s',e,v1,v2,h'⟩:=lq hc hn h (l.length:Int)
 have v3:=v2 (by omega)
 obtain ⟨i,hi⟩:∃i:Nat,v=(i:Int):=⟨v.toNat,by omega⟩
 subst hi
 have hlt:i<l.length:=by omega
 unfold gU
 rw [e]
 simp only [Option.bind_some,jm hlt]
 exact ⟨_,_,rfl,List.getElem_mem hlt,h'⟩
theorem J8 {α:Type} {l:List α} {v:Int} (h0:0≤v) (h1:v<l.length):∃y,rd l v=some y∧y∈l:=by
 obtain ⟨i,rfl⟩:∃i:Nat,v=(i:Int):=⟨v.toNat,by omega⟩
 exact ⟨_,jm (by omega),List.getElem_mem (by omega)⟩
theorem SY {x91:Int×ai} (h0:0≤x91.1) (h3:x91.1<3):
 ∀(m k:Nat) (P:List ae) (F:List aB),(k:Int)+m=23+x91.1→P.length≤2*k→F.length≤k→(∀f∈F,f.Name.size≤20∧f.Ring.length≤10)→
  ∃r,aK (jH x91) ((k:Int),P,F)=some r∧r.1.length≤50∧r.2.length≤25∧(∀f∈r.2,f.Name.size≤20∧f.Ring.length≤10):=by
 intro m
 induction m with
 | zero=>
  intro k P F hk hP hF hf
  refine ⟨(P,F),aV ?_,by show P.length≤50;omega,by show F.length≤25;omega,hf⟩
  unfold jH
  simp only
  rw [bG (n:=23+x91.1) (by omega) (by omega),if_neg (by omega)]
 | succ m ih=>
  intro k P F hk hP hF hf
  have VS:∀z:Int,cat (⟨#[102]⟩:ByteArray) (strOf [z])=some ((⟨#[102]⟩:ByteArray)++strOf [z]):=fun z=>AP (by
   show 1+1≤_
   omega)
  have S1:∃P' F',jH x91 ((k:Int),P,F)=some (.inl (((k+1:Nat):Int),P',F'))∧P'.length≤2* (k+1)∧F'.length≤k+1∧(∀f∈F',f.Name.size≤20∧f.Ring.length≤10):=by
   unfold jH mQ
   simp only
   rw [bG (n:=23+x91.1) (by omega) (by omega),if_pos (by omega),zO (by simp;omega),Option.bind_some]
   by_cases c0:(k:Int) >0
   ·rw [if_pos c0,VS,Option.bind_some,zO (by simp;omega),Option.bind_some,bT (by omega)]
    refine ⟨_,_,rfl,by simp;omega,by simp;omega,fun f hf'=>?_⟩
    rcases List.mem_append.1 hf' with hf' | hf'
    ·exact hf f hf'
    ·rw [List.mem_singleton.1 hf']
     exact ⟨by show (_++_:ByteArray).size≤20;rw [ByteArray.size_append];show 1+1≤20;omega,by show 4≤10;omega⟩
   ·rw [if_neg c0,bT (by omega)]
    exact ⟨_,_,rfl,by simp;omega,by omega,hf⟩
  obtain ⟨P',F',s1,s2,s3,s4⟩:=S1
  rw [aX s1]
  exact ih (k+1) P' F' (by omega) s2 s3 s4
theorem Q5 {c:List Int} (hc:∀x∈c,0≤x∧x≤255) {n:Int} (hn:n≤600000000) {s:ai} (h:Sr c n s):∃d s',pI s=some (d,s')∧SB d∧Sr c (n+100) s':=by
 obtain ⟨d,s1,e1,hd,h1⟩:=VD hc (by omega) h
 obtain ⟨v,s2,e2,v0,v1,h2⟩:=lq hc (by omega) h1 16
 obtain ⟨b1,b2,b3⟩:=hd.sb
 have p0:=hd.pl0
 have f0:=hd.fl0
 have pl:=hd.pl
 have fl:=hd.fl
 have k29:∀(t:ai) (w h:Int) (P:List ae) (F:List aB),Sr c (n+100) t→P.length≤100→F.length≤100→(∀f∈F,f.Name.size≤20∧f.Ring.length≤10)→∃d s',dJ t.code t.at_ t.seed w h P F=some (d,s')∧SB d∧Sr c (n+100) s':=
  fun t w h P F ht hP hF hf=>⟨_,_,rfl,⟨hP,hF,hf⟩,ht⟩
 have hset:∀(i:Nat) (x:aB),x.Name.size≤20→x.Ring.length≤10→∀f∈d.aA.set i x,f.Name.size≤20∧f.Ring.length≤10:=by
  intro i x h1 h2 f hf
  rcases List.mem_or_eq_of_mem_set hf with hf | rfl
  ·exact b3 f hf
  ·exact ⟨h1,h2⟩
 unfold pI
 rw [e1,Option.bind_some]
 simp only
 rw [e2,Option.bind_some]
 simp only
 by_cases c0:v=0
 ·rw [if_pos c0,acP f0,Option.bind_some]
  exact k29 _ _ _ _ _ (h2.mono (by omega)) b1 (by simp;omega) (fun f hf=>b3 f (List.mem_of_mem_take (List.mem_of_mem_drop hf)))
 rw [if_neg c0]
 by_cases c1:v=1
 ·rw [if_pos c1,zO (by simp;omega),Option.bind_some]
  exact k29 _ _ _ _ _ (h2.mono (by omega)) (by simp;omega) b2 b3
 rw [if_neg c1]
 by_cases c2:v=2
 ·rw [if_pos c2]
  obtain ⟨a,s3,e3,_,h3⟩:=Ey hc (by omega) h2 [(w64 (d.Width+5)),9,10,20000,20001] (by simp)
  rw [e3,Option.bind_some]
  exact k29 _ _ _ _ _ (h3.mono (by omega)) b1 b2 b3
 rw [if_neg c2]
 by_cases c3:v=3
 ·rw [if_pos c3]
  obtain ⟨a,s3,e3,a0,a1,h3⟩:=lq hc (by omega) h2 (d.aA.length:Int)
  obtain ⟨y,y1,y2⟩:=J8 (l:=d.aA) a0 (a1 (by omega))
  rw [e3,Option.bind_some]
  simp only
  rw [y1,Option.bind_some]
  exact k29 _ _ _ _ _ (h3.mono (by omega)) b1 (by simp;omega) (hset _ _ (b3 y y2).1 (by show 3≤10;omega))
 rw [if_neg c3]
 by_cases c4:v=4
 ·rw [if_pos c4]
  obtain ⟨a,s3,e3,a0,a1,h3⟩:=lq hc (by omega) h2 (d.aA.length:Int)
  obtain ⟨y,y1,y2⟩:=J8 (l:=d.aA) a0 (a1 (by omega))
  have hnm:∃nm s4,mP s3=some (nm,s4)∧nm.size≤20∧Sr c (n+90) s4:=by
   unfold mP
   obtain ⟨nm,s4,e4,hm,h4⟩:=XQ hc (by omega) h3 ([(⟨#[97]⟩:ByteArray),(⟨#[98]⟩:ByteArray),(⟨#[99]⟩:ByteArray),(⟨#[111,97,107]⟩:ByteArray),(⟨#[115,116,97,114,55]⟩:ByteArray),(⟨#[114,111,115,101]⟩:ByteArray),(⟨#[120,57]⟩:ByteArray),(⟨#[97,98,99,100,101,102,103,104,105,106]⟩:ByteArray),(⟨#[97,98,99,100,101,102,103,104,105,106,107]⟩:ByteArray),(⟨#[65]⟩:ByteArray),(⟨#[]⟩:ByteArray),(⟨#[49,97]⟩:ByteArray),(⟨#[97,45,98]⟩:ByteArray)]:List ByteArray) (by simp)
   rw [e4,Option.bind_some]
   have hs:nm.size≤20:=by
    clear e4
    simp only [List.mem_cons,List.not_mem_nil,or_false] at hm
    rcases hm with rfl | rfl | rfl | rfl | rfl | rfl | rfl | rfl | rfl | rfl | rfl | rfl | rfl<;>decide
   exact ⟨_,_,rfl,hs,h4.mono (by omega)⟩
  obtain ⟨nm,s4,e4,n1,h4⟩:=hnm
  rw [e3,Option.bind_some]
  simp only
  rw [e4,Option.bind_some]
  simp only
  rw [y1,Option.bind_some]
  exact k29 _ _ _ _ _ (h4.mono (by omega)) b1 (by simp;omega) (hset _ _ n1 (b3 y y2).2)
 rw [if_neg c4]
 by_cases c5:v=5
 ·rw [if_pos c5]
  obtain ⟨a,s3,e3,a0,a1,h3⟩:=lq hc (by omega) h2 (d.aA.length:Int)
  obtain ⟨y,y1,y2⟩:=J8 (l:=d.aA) a0 (a1 (by omega))
  obtain ⟨z,s4,e4,_,h4⟩:=Ey hc (by omega) h3 [1,(-1),(d.aH.length:Int)] (by simp)
  rw [e3,Option.bind_some]
  simp only
  rw [e4,Option.bind_some,y1,Option.bind_some]
  exact k29 _ _ _ _ _ (h4.mono (by omega)) b1 (by simp;omega) (hset _ _ (b3 y y2).1 (by show 2≤10;omega))
 rw [if_neg c5]
 by_cases c6:v=6
 ·rw [if_pos c6]
  obtain ⟨y,y1,_⟩:=J8 (l:=d.aH) (v:=0) (by omega) (by omega)
  obtain ⟨z,z1,_⟩:=J8 (l:=d.aH) (v:=1) (by omega) (by omega)
  rw [y1,Option.bind_some,z1,Option.bind_some]
  exact k29 _ _ _ _ _ (h2.mono (by omega)) (by simp;omega) b2 b3
 rw [if_neg c6]
 by_cases c7:v=7
 ·rw [if_pos c7]
  obtain ⟨a,s3,e3,a0,a1,h3⟩:=lq hc (by omega) h2 3
  obtain ⟨⟨P,F⟩,q1,q2,q3,q4⟩:=SY (x91:=(a,s3)) a0 (a1 (by omega)) (23+a).toNat 0 [] [] (by show ((0:Nat):Int)+_=23+a;omega) (by simp) (by simp) (by simp)
  have q1:aK (jH (a,s3)) (0,[],[])=_:=q1
  rw [e3,Option.bind_some,q1,Option.bind_some]
  exact k29 _ _ _ _ _ (h3.mono (by omega)) (by have q2:P.length≤50:=q2;omega) (by have q3:F.length≤25:=q3;omega) q4
 rw [if_neg c7]
 by_cases c8:v=8
 ·rw [if_pos c8]
  obtain ⟨a,s3,e3,a0,a1,h3⟩:=lq hc (by omega) h2 (d.aH.length:Int)
  obtain ⟨y,y1,y2⟩:=J8 (l:=d.aH) a0 (a1 (by omega))
  obtain ⟨z,s4,e4,_,_,h4⟩:=lq hc (by omega) h3 30
  rw [e3,Option.bind_some]
  simp only
  rw [y1,Option.bind_some,e4,Option.bind_some,Option.bind_some]
  exact k29 _ _ _ _ _ (h4.mono (by omega)) (by simp;omega) b2 b3
 rw [if_neg c8]
 exact k29 _ _ _ _ _ (h2.mono (by omega)) b1 b2 b3
theorem VE (l:List Int) (n:Int) (hl:l.length≤1048576):dZ l n=some (decide (n∈l)):=by
 unfold dZ jR
 rcases QU (f:=gq l n) l (fun x=>!decide (n=x)) (fun i=>(i:Int)) (by omega) (fun i hi=>by
  unfold gq
  rw [if_pos (by omega),jm hi,Option.bind_some]
  by_cases c:n=l[i]<;>simp [c]) (by unfold gq;rw [if_neg (by omega)]) with ⟨h1,h2⟩ | ⟨h1,i,hi,h2⟩
 ·rw [h2]
  have:¬n∈l:=fun h=>by
   have:=List.all_eq_true.1 h1 n h
   simp at this
  simp [this]
 ·rw [h2]
  have:n∈l:=by
   rw [List.all_eq_false] at h1
   obtain ⟨x,hx,h⟩:=h1
   simp at h
   exact h ▸ hx
  simp [this]
def er {α:Type} (R:List α):List (α×α):=R.zip (R.drop 1++R.take 1)
theorem DL {α:Type} (R:List α):(er R).length=R.length:=by
 unfold er
 rw [List.length_zip,List.length_append,List.length_drop,List.length_take]
 omega
theorem Zw {α:Type} {R:List α} {j:Nat} (h:j<R.length):∃h2:(j+1) % R.length<R.length,(er R)[j]'(by rw [DL];exact h)=(R[j],R[(j+1) % R.length]):=by
 have h2:(j+1) % R.length<R.length:=Nat.mod_lt _ (by omega)
 refine ⟨h2,?_⟩
 unfold er
 rw [List.getElem_zip]
 congr 1
 by_cases c:j+1<R.length
 ·rw [List.getElem_append_left (by rw [List.length_drop];omega),List.getElem_drop]
  congr 1
  rw [Nat.mod_eq_of_lt c];omega
 ·have e:j+1=R.length:=by omega
  rw [List.getElem_append_right (by rw [List.length_drop];omega),List.getElem_take]
  congr 1
  rw [List.length_drop,e,Nat.mod_self];omega
theorem abb {α:Type} {R:List α} (hR:R.length≤1048576) {j:Nat} (h:j<R.length):rd R (j:Int)=some ((er R)[j]'(by rw [DL];exact h)).1∧md (w64 ((j:Int)+1)) (R.length:Int)=some (((j+1) % R.length:Nat):Int)∧rd R (((j+1) % R.length:Nat):Int)=some ((er R)[j]'(by rw [DL];exact h)).2:=by
 obtain ⟨h2,h3⟩:=Zw h
 rw [h3]
 exact ⟨jm h,by rw [bT (by omega)];exact yt (by omega),jm h2⟩
def he (p q:Int×Int):Bool:=decide (q.1=p.1∧q.2=p.2∨q.1=p.2∧q.2=p.1)
def fc (R S:List Int):Bool:=(er R).any fun p=>(er S).any (he p)
def rg (d:aG) (k:Nat):List Int:=match d.aA[k]? with | some f=>f.Ring | none=>[]
def iQ (d:aG) (k n:Nat):List Int:=((List.range n).filter fun m=>decide (m≠k)&&fc (rg d k) (rg d m)).map fun m:Nat=>(m:Int)
theorem abe {d:aG} {k:Nat} (h:k<d.aA.length):rg d k=d.aA[k].Ring:=by
 unfold rg
 rw [List.getElem?_eq_getElem h]
theorem O8 (d:aG) (k n:Nat):iQ d k (n+1)=if n≠k∧fc (rg d k) (rg d n)=true then iQ d k n++[(n:Int)] else iQ d k n:=by
 unfold iQ
 rw [List.range_succ,List.filter_append,List.map_append]
 by_cases c:n≠k∧fc (rg d k) (rg d n)=true
 ·rw [if_pos c,List.filter_cons_of_pos (by simp [c.1,c.2])];rfl
 ·rw [if_neg c,List.filter_cons_of_neg (by simpa using c),List.filter_nil,List.map_nil,List.append_nil]
theorem FC (d:aG) (k n:Nat):(iQ d k n).length≤n:=by
 unfold iQ
 rw [List.length_map]
 exact Nat.le_trans (List.length_filter_le _ (List.range n)) (Nat.le_of_eq List.length_range)
theorem J9 {d:aG} {k n:Nat} {x:Int} (h:x∈iQ d k n):0≤x∧x<n:=by
 unfold iQ at h
 obtain ⟨m,hm,rfl⟩:=List.mem_map.1 h
 have:=List.mem_range.1 (List.mem_filter.1 hm).1
 omega
def bR (d:aG):Prop:=d.aA.length≤1048576∧∀f∈d.aA,f.Ring.length≤1048576
theorem Yr {d:aG} (h:bR d) (k:Nat):(rg d k).length≤1048576:=by
 unfold rg
 cases e:d.aA[k]? with
 | none=>simp
 | some f=>exact h.2 f (List.mem_of_getElem? e)
def mm (p:Int×Int):bf:=⟨min2 p.1 p.2,max2 p.1 p.2⟩
theorem Yt (p q:Int×Int):((mm p).e0=(mm q).e0∧(mm p).e1=(mm q).e1)↔he p q=true:=by
 obtain ⟨a,b⟩:=p
 obtain ⟨c,d⟩:=q
 unfold mm he
 simp only [decide_eq_true_eq]
 rcases sZ a b with h1 | h1<;>rcases sZ c d with h2 | h2<;>rcases jd a b with h3 | h3<;>rcases jd c d with h4 | h4<;>rw [h1.2,h2.2,h3.2,h4.2]<;>omega
theorem LY (R:List Int) (hR:R.length≤1048576):oZ R=some ((er R).map mm):=by
 unfold oZ
 have e:aK (lN R) (0,[])=some ((er R).map mm):=by
  refine lG (fun j:Nat=>((j:Int),((er R).take j).map mm)) R.length (fun j hj=>?_) ?_
  ·obtain ⟨e1,e2,e3⟩:=abb hR hj
   unfold lN
   simp only
   rw [if_pos (by omega),e1,Option.bind_some,e2,Option.bind_some,e3,Option.bind_some,zO (by rw [List.length_map,List.length_take,List.length_singleton];omega),Option.bind_some,bT (by omega),List.take_succ_eq_append_getElem (by rw [DL];exact hj),List.map_append]
   rfl
  ·unfold lN
   simp only
   rw [if_neg (by omega),List.take_of_length_le (by rw [DL];exact Nat.le_refl _)]
 rw [e];rfl
theorem acQ (L:List (Int×Int)) (hL:L.length≤1048576) (p:Int×Int):eF (L.map mm) (mm p)=some (L.any (he p)):=by
 unfold eF iE
 rcases IU (f:=eu (L.map mm) (mm p)) L (he p) (fun k=>(k:Int)) (by omega) (fun i hi=>by
  unfold eu
  rw [List.length_map,if_pos (by omega),jm (by rw [List.length_map];exact hi),Option.bind_some,List.getElem_map]
  by_cases c:he p L[i]=true
  ·rw [if_pos ((Yt _ _).2 c),if_pos c]
  ·rw [if_neg (fun h=>c ((Yt _ _).1 h)),if_neg c]) (by unfold eu;rw [List.length_map,if_neg (by omega)]) with ⟨h1,h2⟩ | ⟨i,hi,h1,_,h2⟩
 ·rw [h2,List.any_eq_false.2 fun x hx=>by simpa using h1 x hx]
  rfl
 ·rw [h2,List.any_eq_true.2 ⟨_,List.getElem_mem hi,h1⟩]
  show some (decide ((i:Int)≥0))=_
  rw [decide_eq_true (by omega)]
theorem abf {f:bf→Option Bool} {V:Int×Int→Bool} (L:List (Int×Int)) (hL:L.length≤1048576) (hf:∀p,f (mm p)=some (V p)):dG (L.map mm) f=some (L.any V):=by
 unfold dG gp
 rcases IU (f:=dD f (L.map mm)) L V (fun k=>(k:Int)) (by omega) (fun i hi=>by
  unfold dD
  rw [List.length_map,if_pos (by omega),jm (by rw [List.length_map];exact hi),Option.bind_some,List.getElem_map,hf]
  rfl) (by unfold dD;rw [List.length_map,if_neg (by omega)]) with ⟨h1,h2⟩ | ⟨i,hi,h1,_,h2⟩
 ·rw [h2,List.any_eq_false.2 fun x hx=>by simpa using h1 x hx]
  rfl
 ·rw [h2,List.any_eq_true.2 ⟨_,List.getElem_mem hi,h1⟩]
  show some (decide ((i:Int)≥0))=_
  rw [decide_eq_true (by omega)]
def xG (d:aG) (n:Nat):List (List bf):=(List.range n).map fun k=>(er (rg d k)).map mm
def uU {β:Type} (g:Nat→β) (z:β) (t n:Nat):List β:=(List.range t).map g++List.replicate (n - t) z
theorem Ko {β:Type} {g:Nat→β} {z:β} {t n:Nat} (h:t≤n):(uU g z t n).length=n:=by
 unfold uU
 rw [List.length_append,List.length_map,List.length_range,List.length_replicate];omega
theorem S9 {β:Type} {g:Nat→β} {z:β} {t n:Nat} (h:t<n):rd (uU g z t n) (t:Int)=some z:=by
 have hl:=Ko (g:=g) (z:=z) (Nat.le_of_lt h)
 rw [jm (by omega)]
 unfold uU
 rw [List.getElem_append_right (by simp),List.getElem_replicate]
theorem Tc {β:Type} {g:Nat→β} {z:β} {t n:Nat} (h:t<n):(uU g z t n).set t (g t)=uU g z (t+1) n:=by
 unfold uU
 rw [List.set_append_right _ _ (by simp),List.length_map,List.length_range,Nat.sub_self,List.range_succ,List.map_append,List.append_assoc]
 congr 1
 rw [show n - t=(n - (t+1))+1 by omega,List.replicate_succ,List.set_cons_zero]
 rfl
theorem Td {β:Type} {g:Nat→β} {z:β} {n:Nat}:uU g z n n=(List.range n).map g:=by
 unfold uU
 rw [Nat.sub_self,List.replicate_zero,List.append_nil]
theorem O9 {β:Type} {g:Nat→β} {z:β} {t n:Nat} (h:t<n):(uU g z t n).set t z=uU g z t n:=by
 have h1:=S9 (g:=g) (z:=z) h
 rw [OG] at h1
 obtain ⟨h2,h3⟩:=List.getElem?_eq_some_iff.1 h1
 apply List.ext_getElem?
 intro j
 by_cases c:j=t
 ·subst c;rw [List.getElem?_set_self h2,h1]
 ·rw [List.getElem?_set_ne (by omega)]
theorem Zx {α:Type} {l:List α} {t:Nat} {x:α} (h:t<l.length):rd (l.set t x) (t:Int)=some x:=by
 rw [OG,List.getElem?_set_self h]
theorem BO {d:aG} (hb:bR d):jq d=some ((List.range d.aA.length).map fun k=>iQ d k d.aA.length):=by
 have hF:=hb.1
 unfold jq
 have e:aK (kX d) (0,[])=some (xG d d.aA.length):=by
  refine lG (fun t:Nat=>((t:Int),xG d t)) d.aA.length (fun t ht=>?_) ?_
  ·unfold kX
   simp only
   rw [if_pos (by omega),jm ht,Option.bind_some,LY _ (hb.2 _ (List.getElem_mem ht)),Option.bind_some,zO (by unfold xG;rw [List.length_map,List.length_range,List.length_singleton];omega),Option.bind_some,bT (by omega)]
   unfold xG
   rw [List.range_succ,List.map_append,List.map_singleton,abe ht]
  ·unfold kX
   simp only
   rw [if_neg (by omega)]
 rw [e]
 have hl:(xG d d.aA.length).length=d.aA.length:=by unfold xG;rw [List.length_map,List.length_range]
 simp only [Option.bind_some,hl]
 unfold mkl
 rw [if_pos ⟨by omega,by omega⟩,Option.bind_some]
 have ed:∀k:Nat,k<d.aA.length→rd (xG d d.aA.length) (k:Int)=some ((er (rg d k)).map mm):=by
  intro k hk
  rw [jm (by omega)]
  unfold xG
  rw [List.getElem_map,List.getElem_range]
 have inner:∀(t:Nat),t<d.aA.length→∀(out:List (List Int)),out.length=d.aA.length→out.set t []=out→aK (kH (xG d d.aA.length) (t:Int)) (0,out)=some (out.set t (iQ d t d.aA.length)):=by
  intro t ht out ho hz
  have h0:(((0:Nat):Int),out.set t (iQ d t 0))=((0:Int),out):=by
   rw [show iQ d t 0=[] from rfl,hz];rfl
  rw [←h0]
  refine lG (fun m:Nat=>((m:Int),out.set t (iQ d t m))) d.aA.length (fun m hm=>?_) ?_
  ·have hn:=FC d t m
   unfold kH
   simp only
   rw [hl,if_pos (by omega),O8]
   unfold kG
   rw [bT (by omega)]
   by_cases c1:m=t
   ·subst c1
    simp only [ne_eq,not_true_eq_false,if_false,false_and,Option.bind_some,Bool.false_eq_true]
   ·rw [if_pos (show (t:Int)≠(m:Int) by omega),ed t ht]
    have hc:∀p:Int×Int,iI (mm p) (xG d d.aA.length) (m:Int)=some ((er (rg d m)).any (he p)):=by
     intro p
     unfold iI
     rw [ed m hm,Option.bind_some,acQ _ (by rw [DL];exact Yr hb m),Option.bind_some]
    simp only [Option.bind_some]
    rw [abf (V:=fun p=>(er (rg d m)).any (he p)) (er (rg d t)) (by rw [DL];exact Yr hb t) hc]
    simp only [Option.bind_some]
    rw [show ((er (rg d t)).any fun p=>(er (rg d m)).any (he p))=fc (rg d t) (rg d m) from rfl]
    rw [Zx (by omega)]
    cases hfc:fc (rg d t) (rg d m) with
    | false=>simp
    | true=>
     simp only [if_true,Option.bind_some,and_true]
     rw [if_pos c1,zO (by simp only [List.length_singleton];omega),Option.bind_some,show ((t:Int)).toNat=t from rfl,List.set_set]
  ·unfold kH
   simp only
   rw [hl,if_neg (by omega)]
 have h0:(((0:Nat):Int),uU (fun k=>iQ d k d.aA.length) [] 0 d.aA.length)=((0:Int),List.replicate (d.aA.length:Int).toNat ([]:List Int)):=by
  unfold uU
  simp
 rw [←h0]
 have e2:aK (kW (xG d d.aA.length)) (((0:Nat):Int),uU (fun k=>iQ d k d.aA.length) [] 0 d.aA.length)=some (uU (fun k=>iQ d k d.aA.length) [] d.aA.length d.aA.length):=by
  refine lG (fun t:Nat=>((t:Int),uU (fun k=>iQ d k d.aA.length) [] t d.aA.length)) d.aA.length (fun t ht=>?_) ?_
  ·unfold kW
   simp only
   rw [hl,if_pos (by omega),inner t ht _ (Ko (Nat.le_of_lt ht)) (O9 ht),Option.bind_some,bT (by omega)]
   rw [←Tc ht]
  ·unfold kW
   simp only
   rw [hl,if_neg (by omega)]
 rw [e2,Td];rfl
def EC (a b:Int):Int:=min2 (max2 (a - b) (b - a)) (180 - max2 (a - b) (b - a))
def ctP (a b:ak):Int:=max2 (a.iM - b.iM) (b.iM - a.iM)+(EC a.dw b.dw).tdiv 6
def okV (a:ak):Prop:=0≤a.iM∧a.iM≤100∧0≤a.dw∧a.dw≤179
theorem XR {a:ak} (h:NS a=true):okV a:=by
 have e:=Vu a
 rw [h] at e
 unfold gY at e
 simp only [oh] at e
 cases hs:fG a.rf with
 | none=>rw [hs] at e;cases e
 | some x=>
  rw [hs] at e
  simp only [Option.bind_some] at e
  cases h2:x.2 with
  | false=>rw [h2] at e;cases e
  | true=>
   rw [h2] at e
   by_cases c1:0≤a.iM∧a.iM≤100
   ·by_cases c3:0≤a.dw∧a.dw≤179
    ·exact ⟨c1.1,c1.2,c3.1,c3.2⟩
    ·rw [decide_eq_true c1,decide_eq_false c3] at e
     simp at e
   ·rw [decide_eq_false c1] at e
    simp at e
theorem abg (a b:Int):um a b=some (max2 a b):=by
 unfold um
 rcases jd a b with h | h<;>rw [h.2]
 ·rw [if_neg (by omega)]
 ·by_cases c:a>b
  ·rw [if_pos c]
  ·rw [if_neg c];congr 1;omega
theorem abh (a b:Int):uq a b=some (min2 a b):=by
 unfold uq
 rcases sZ a b with h | h<;>rw [h.2]
 ·rw [if_neg (by omega)]
 ·by_cases c:a<b
  ·rw [if_pos c]
  ·rw [if_neg c];congr 1;omega
theorem Yu {a b:ak} (ha:okV a) (hb:okV b):0≤EC a.dw b.dw∧EC a.dw b.dw≤180∧-200≤max2 (a.dw - b.dw) (b.dw - a.dw)∧max2 (a.dw - b.dw) (b.dw - a.dw)≤200∧0≤max2 (a.iM - b.iM) (b.iM - a.iM)∧max2 (a.iM - b.iM) (b.iM - a.iM)≤100:=by
 obtain ⟨a1,a2,a3,a4⟩:=ha
 obtain ⟨b1,b2,b3,b4⟩:=hb
 unfold EC
 rcases jd (a.dw - b.dw) (b.dw - a.dw) with h | h<;>rcases jd (a.iM - b.iM) (b.iM - a.iM) with h' | h'<;>rw [h.2,h'.2]
 all_goals
  rcases sZ (b.dw - a.dw) (180 - (b.dw - a.dw)) with k | k<;>rcases sZ (a.dw - b.dw) (180 - (a.dw - b.dw)) with k' | k'<;>first | rw [k.2] | rw [k'.2]
  all_goals omega
theorem acR {a b:ak} (ha:okV a) (hb:okV b):0≤ctP a b∧ctP a b≤200:=by
 obtain ⟨h1,h2,_,_,h3,h4⟩:=Yu ha hb
 unfold ctP
 have e:(EC a.dw b.dw).tdiv 6=EC a.dw b.dw / 6:=Int.tdiv_eq_ediv_of_nonneg h1
 rw [e]
 omega
theorem abj {a b:ak} (ha:okV a) (hb:okV b):nZ a b=some (ctP a b):=by
 obtain ⟨h1,h2,h5,h6,h3,h4⟩:=Yu ha hb
 have h0:=acR ha hb
 obtain ⟨a1,a2,a3,a4⟩:=ha
 obtain ⟨b1,b2,b3,b4⟩:=hb
 unfold nZ qA
 simp only [oh]
 rw [decide_eq_true (show 0≤a.dw∧a.dw≤179 from ⟨a3,a4⟩),decide_eq_true (show 0≤b.dw∧b.dw≤179 from ⟨b3,b4⟩)]
 simp only [Option.bind_some,if_true,Bool.not_true,Bool.false_eq_true,if_false]
 rw [bG (n:=a.iM - b.iM) (by omega) (by omega),bG (n:=b.iM - a.iM) (by omega) (by omega),bG (n:=a.dw - b.dw) (by omega) (by omega),bG (n:=b.dw - a.dw) (by omega) (by omega),
  bG (n:=180 - max2 (a.dw - b.dw) (b.dw - a.dw)) (by omega) (by omega)]
 have e:dv .i64 (EC a.dw b.dw) 6=some ((EC a.dw b.dw).tdiv 6):=by
  unfold dv
  rw [if_neg (by decide)]
  congr 1
  have e:(EC a.dw b.dw).tdiv 6=EC a.dw b.dw / 6:=Int.tdiv_eq_ediv_of_nonneg h1
  exact bG (by rw [e];omega) (by rw [e];omega)
 show (dv .i64 (EC a.dw b.dw) 6).bind _=_
 rw [e,Option.bind_some]
 show some (w64 (ctP a b))=_
 rw [bG (by omega) (by omega)]
theorem Tf (a b:Int):EC a b=EC b a:=by unfold EC;rw [J4]
theorem VF (a b:ak):ctP a b=ctP b a:=by unfold ctP;rw [J4,Tf]
theorem Q7 (p q:Int×Int):he p q=he q p:=by
 unfold he
 exact decide_eq_decide.2 (by omega)
theorem XT (R S:List Int):fc R S=fc S R:=by
 unfold fc
 rw [Bool.eq_iff_iff,List.any_eq_true,List.any_eq_true]
 constructor
 ·rintro ⟨p,hp,h⟩
  obtain ⟨q,hq,h2⟩:=List.any_eq_true.1 h
  exact ⟨q,hq,List.any_eq_true.2 ⟨p,hp,by rw [Q7];exact h2⟩⟩
 ·rintro ⟨p,hp,h⟩
  obtain ⟨q,hq,h2⟩:=List.any_eq_true.1 h
  exact ⟨q,hq,List.any_eq_true.2 ⟨p,hp,by rw [Q7];exact h2⟩⟩
theorem IX {d:aG} {i k n:Nat}:(k:Int)∈iQ d i n↔k<n∧k≠i∧fc (rg d i) (rg d k)=true:=by
 unfold iQ
 rw [List.mem_map]
 constructor
 ·rintro ⟨m,hm,e⟩
  obtain rfl:m=k:=by omega
  obtain ⟨h1,h2⟩:=List.mem_filter.1 hm
  simp at h2
  exact ⟨List.mem_range.1 h1,h2.1,h2.2⟩
 ·rintro ⟨h1,h2,h3⟩
  exact ⟨k,List.mem_filter.2 ⟨List.mem_range.2 h1,by simp [h2,h3]⟩,rfl⟩
theorem VG {d:aG} {i k n:Nat} (hi:i<n) (h:(k:Int)∈iQ d i n):(i:Int)∈iQ d k n:=by
 obtain ⟨h1,h2,h3⟩:=IX.1 h
 exact IX.2 ⟨hi,fun e=>h2 e.symm,by rw [XT];exact h3⟩
theorem Bq {x:Int}:∀l,x∈cmpL l↔x∈l
 | []=>Iff.rfl
 | a::t=>by
  unfold cmpL
  by_cases c:t.head? =some a
  ·rw [if_pos c,Bq t,List.mem_cons]
   exact ⟨.inr,fun h=>h.elim (fun e=>by subst e;exact List.mem_of_mem_head? c) id⟩
  ·rw [if_neg c,List.mem_cons,List.mem_cons,Bq t]
theorem IY:∀l,l.Pairwise (·≤·)→(cmpL l).Pairwise (· < ·)
 | [],_=>List.Pairwise.nil
 | a::t,h=>by
  obtain ⟨h1,h2⟩:=List.pairwise_cons.1 h
  unfold cmpL
  by_cases c:t.head? =some a
  ·rw [if_pos c];exact IY t h2
  ·rw [if_neg c]
   refine List.pairwise_cons.2 ⟨fun x hx=>?_,IY t h2⟩
   have hx:=(Bq t).1 hx
   cases t with
   | nil=>cases hx
   | cons b t=>
    have hb:=h1 b (List.mem_cons_self ..)
    have hab:a≠b:=fun e=>c (by rw [e];rfl)
    rcases List.mem_cons.1 hx with rfl | hx
    ·omega
    ·have:=(List.pairwise_cons.1 h2).1 x hx
     omega
def nb (G:List Int):List Int:=G.foldl (fun acc x=>if x∈acc then acc else acc++[x]) []
theorem LZ (G:List Int) (x:Int):nb (G++[x])=if x∈nb G then nb G else nb G++[x]:=by
 unfold nb
 rw [List.foldl_append]
 rfl
theorem NV {p:List Int→Prop} (h0:p []) (h1:∀G x,p G→p (G++[x])):∀G,p G:=by
 intro G
 have:∀n (G:List Int),G.length=n→p G:=by
  intro n
  induction n with
  | zero=>intro G h;rw [List.eq_nil_of_length_eq_zero h];exact h0
  | succ n ih=>
   intro G h
   rcases List.eq_nil_or_concat G with rfl | ⟨L,y,rfl⟩
   ·cases h
   ·rw [List.concat_eq_append] at h ⊢
    rw [List.length_append,List.length_singleton] at h
    exact h1 L y (ih L (by omega))
 exact this G.length G rfl
theorem IZ {x:Int}:∀G,x∈nb G↔x∈G:=by
 refine NV (p:=fun G=>x∈nb G↔x∈G) Iff.rfl fun G y ih=>?_
 rw [LZ]
 by_cases c:y∈nb G
 ·rw [if_pos c,ih,List.mem_append,List.mem_singleton]
  exact ⟨.inl,fun h=>h.elim id fun e=>by subst e;exact ih.1 c⟩
 ·rw [if_neg c,List.mem_append,List.mem_append,ih]
theorem I4:∀G,(nb G).Nodup:=by
 refine NV (p:=fun G=>(nb G).Nodup) List.Pairwise.nil fun G y ih=>?_
 rw [LZ]
 by_cases c:y∈nb G
 ·rw [if_pos c];exact ih
 ·rw [if_neg c]
  exact List.nodup_append.2 ⟨ih,by simp,fun a ha b hb e=>c (by rw [List.mem_singleton] at hb;rw [←hb,←e];exact ha)⟩
def kn (G:List Int):Nat:=(nb G).length
theorem Ph:kn []=0:=rfl
theorem L6 (G:List Int) (x:Int):kn (G++[x])=if x∈G then kn G else kn G+1:=by
 unfold kn
 rw [LZ]
 by_cases c:x∈G
 ·rw [if_pos c,if_pos ((IZ G).2 c)]
 ·rw [if_neg c,if_neg fun h=>c ((IZ G).1 h),List.length_append];rfl
theorem Zy (G:List Int):(cmpL (sortL G)).length=kn G:=by
 have h1:(cmpL (sortL G)).Nodup:=(IY _ (UI G)).imp fun h e=>by omega
 have hm:∀x,x∈cmpL (sortL G)↔x∈nb G:=fun x=>by rw [Bq,(Dn G).mem_iff,IZ]
 have a:=BN _ _ h1 fun x hx=>(hm x).1 hx
 have b:=BN _ _ (I4 G) fun x hx=>(hm x).2 hx
 exact Nat.le_antisymm a b
theorem XU (G:List Int) (k:Nat):kn (G.take k)≤kn G:=by
 have:∀(m:Nat) (G:List Int),G.length=k+m→kn (G.take k)≤kn G:=by
  intro m
  induction m with
  | zero=>intro G h;rw [List.take_of_length_le (by omega)];exact Nat.le_refl _
  | succ m ih=>
   intro G h
   rcases List.eq_nil_or_concat G with rfl | ⟨L,y,rfl⟩
   ·simp at h
   ·rw [List.concat_eq_append] at h ⊢
    rw [List.length_append,List.length_singleton] at h
    have:=ih L (by omega)
    rw [List.take_append_of_le_length (by omega),L6]
    split<;>omega
 by_cases c:k≤G.length
 ·exact this (G.length - k) G (by omega)
 ·rw [List.take_of_length_le (by omega)];exact Nat.le_refl _
theorem VH (G:List Int) (n:Nat) (h:∀x∈G,0≤x∧x<n):kn G≤n:=by
 have:=BN (nb G) (upto n) (I4 G) fun x hx=>Vq.2 (h x ((IZ G).1 hx))
 rw [NR] at this
 exact this
abbrev FCo:=(aS×(List Int)×Int×Int)→Option ((List Int)×Int×aS)
theorem Zz (x:aS) (F:List Int) (a b:Int):Fs (fun self:FCo=>dW self x F a b):=by
 have k24:∀a b c d,Fs (fun self:FCo=>dH self a b c d):=by
  intros
  unfold dH
  exact Fs.const _
 unfold dW
 refine Fs.ite (Fs.const _) (Fs.bind (Fs.const _) fun _=>Fs.bind (Fs.const _) fun _=>Fs.bind (Fs.const _) fun _=>Fs.bind (Fs.loop (fun s=>?_) _) fun _=>Fs.const _)
 obtain ⟨a1,a2,a3,a4⟩:=s
 unfold bV
 refine Fs.ite (Fs.bind (Fs.const _) fun _=>Fs.ite (k24 _ _ _ _) (Fs.bind (Fs.const _) fun _=>Fs.bind (Fs.loop (fun s=>?_) _) fun _=>Fs.ite (Fs.ite (Fs.const _) (Fs.bind (Fs.const _) fun _=>Fs.bind (Fs.const _) fun _=>Fs.bind (Fs.app _) fun _=>Fs.ite (Fs.const _) (k24 _ _ _ _))) (k24 _ _ _ _))) (Fs.const _)
 obtain ⟨b1,b2⟩:=s
 unfold fU
 exact Fs.const _
noncomputable abbrev SCo:FCo:=fun s=>fJ s.1 s.2.1 s.2.2.1 s.2.2.2
theorem VI (x:aS) (F:List Int) (a b:Int):fJ x F a b=dW SCo x F a b:=by
 show AB _ _=_
 rw [PS]
 ·rfl
 ·rintro ⟨x,F,a,b⟩
  exact Zz x F a b
section
variable {d:aG} (hb:bR d) {C:List ak} (hC:∀x∈C,okV x) (hCl:C.length≤1048576)
def gC (C:List ak) (i:Int):ak:=C.getD i.toNat ⟨⟨#[]⟩,0,0⟩
abbrev nrC (d:aG):List (List Int):=(List.range d.aA.length).map fun k=>iQ d k d.aA.length
theorem BP:(nrC d).length=d.aA.length:=by rw [List.length_map,List.length_range]
include hC in
theorem Q8 {i:Int} (h0:0≤i) (h1:i<C.length):rd C i=some (gC C i)∧okV (gC C i):=by
 obtain ⟨k,rfl⟩:∃k:Nat,i=(k:Int):=⟨i.toNat,by omega⟩
 have hk:k<C.length:=by omega
 have e:gC C (k:Int)=C[k]:=by
  unfold gC
  rw [Int.toNat_natCast,List.getD_eq_getElem?_getD,List.getElem?_eq_getElem hk];rfl
 rw [e]
 exact ⟨jm hk,hC _ (List.getElem_mem hk)⟩
def gdC (C:List ak) (limit:Int) (G:List Int) (t:Int) (m:Int):Bool:=decide (m≥(G.length:Int))||decide (ctP (gC C t) (gC C (G.getD m.toNat 0))≥limit)
def PC (d:aG) (C:List ak) (limit:Int) (G:List Int):Prop:=∀k (h:k<G.length),0≤G[k]∧G[k] <C.length∧(iQ d k d.aA.length).all (gdC C limit (G.take k) G[k])=true
theorem PC.nil {limit:Int}:PC d C limit []:=fun k h=>absurd h (by simp)
theorem PC.snoc {limit:Int} {G:List Int} {t:Int} (hG:PC d C limit G) (h0:0≤t) (h1:t<C.length) (hg:(iQ d G.length d.aA.length).all (gdC C limit G t)=true):PC d C limit (G++[t]):=by
 intro k h
 by_cases c:k<G.length
 ·rw [List.getElem_append_left c,List.take_append_of_le_length (by omega)]
  exact hG k c
 ·have:k=G.length:=by rw [List.length_append,List.length_singleton] at h;omega
  subst this
  rw [List.getElem_append_right (by omega),List.take_left' rfl]
  exact ⟨by simpa using h0,by simpa using h1,by simpa using hg⟩
theorem PC.range {limit:Int} {G:List Int} (hG:PC d C limit G):∀x∈G,0≤x∧x<C.length:=by
 intro x hx
 obtain ⟨k,hk,rfl⟩:=List.getElem_of_mem hx
 exact ⟨(hG k hk).1,(hG k hk).2.1⟩
include hb hC in
theorem ZA {s0:FCo} {limit:Int} {G:List Int} (hG:∀x∈G,0≤x∧x<C.length) (hk:G.length<d.aA.length) {t:Int} (t0:0≤t) (t1:t<C.length):
 aK (fU s0 G limit C t (iQ d G.length d.aA.length)) (true,0)=some ((iQ d G.length d.aA.length).all (gdC C limit G t)):=by
 have hF:=hb.1
 have hl:=FC d G.length d.aA.length
 have at_:∀{l:List Int} {p:Int→Bool} {i:Nat} (h:i<l.length),(l.take (i+1)).all p=((l.take i).all p&&p l[i]):=by
  intro l p i h
  rw [List.take_succ_eq_append_getElem h,List.all_append,List.all_cons,List.all_nil,Bool.and_true]
 refine lG (fun j:Nat=>(((iQ d G.length d.aA.length).take j).all (gdC C limit G t),(j:Int))) (iQ d G.length d.aA.length).length (fun j hj=>?_) ?_
 ·have hm:=List.getElem_mem hj
  obtain ⟨m0,m1⟩:=J9 hm
  unfold fU
  simp only
  rw [if_pos (by omega),jm hj,Option.bind_some,at_ hj,bT (by omega)]
  cases ((iQ d G.length d.aA.length).take j).all (gdC C limit G t) with
  | false=>rfl
  | true=>
   rw [if_pos rfl,Bool.true_and]
   generalize (iQ d G.length d.aA.length)[j]=m at m0 m1 hm
   obtain ⟨i,rfl⟩:∃i:Nat,m=(i:Int):=⟨m.toNat,by omega⟩
   unfold gdC
   by_cases c:(i:Int)≥(G.length:Int)
   ·rw [if_pos c,decide_eq_true c];rfl
   ·have hi:i<G.length:=by omega
    have eg:G.getD ((i:Int)).toNat 0=G[i]:=by rw [Int.toNat_natCast,List.getD_eq_getElem?_getD,List.getElem?_eq_getElem hi];rfl
    obtain ⟨g0,g1⟩:=hG _ (List.getElem_mem hi)
    obtain ⟨a1,a2⟩:=Q8 hC t0 t1
    obtain ⟨b1,b2⟩:=Q8 hC g0 g1
    rw [if_neg c,decide_eq_false c,a1,Option.bind_some,jm hi,Option.bind_some,b1,Option.bind_some,abj a2 b2,Option.bind_some,eg]
    rfl
 ·unfold fU
  simp only
  rw [if_neg (by omega),List.take_of_length_le (Nat.le_refl _)]
def RSo (d:aG) (C:List ak) (limit most:Int) (G out:List Int) (code L L':Int):Prop:=0≤L'∧L'≤L∧
 ((code=0∧PC d C limit out∧out.length=d.aA.length∧(kn out:Int)≤most)∨(code=5∧out=[])∨(code=3∧out=[]∧∀E,PC d C limit (G++E)→(G++E).length=d.aA.length→¬(kn (G++E):Int)≤most))
include hb hC hCl
theorem L8 (limit most:Int) (hm:0≤most):∀(m:Nat) (G:List Int) (L:Int),G.length+m=d.aA.length→0≤L→L≤20000→PC d C limit G→(kn G:Int)≤most→
 ∃out code L',fJ ⟨nrC d,C,L⟩ G limit most=some (out,code,⟨nrC d,C,L'⟩)∧RSo d C limit most G out code L L':=by
 have hF:=hb.1
 intro m
 induction m with
 | zero=>
  intro G L hl h0 h1 hG hk
  rw [VI]
  unfold dW
  simp only
  rw [if_pos (by rw [BP];omega)]
  exact ⟨G,0,L,rfl,h0,Int.le_refl _,.inl ⟨rfl,hG,by omega,hk⟩⟩
 | succ m ih=>
  intro G L hl h0 h1 hG hk
  have hGr:=hG.range
  have hGl:G.length≤1048576:=by omega
  rw [VI]
  unfold dW
  simp only
  have hs1:ND G=some (sortL G):=by unfold ND;rw [if_pos (by omega)]
  have hs2:UJ (sortL G)=some (cmpL (sortL G)):=by unfold UJ;rw [if_pos (by rw [EX];omega)]
  rw [if_neg (by rw [BP];omega),zO (by simp only [List.length_nil];omega),Option.bind_some,List.nil_append,hs1,Option.bind_some,hs2,Option.bind_some]
  have hcl:(cmpL (sortL G)).length≤1048576:=Nat.le_trans (Ie _) (by rw [EX];exact hGl)
  have hmem:∀t,t∈cmpL (sortL G)↔t∈G:=fun t=>by rw [Bq,(Dn G).mem_iff]
  have hnr:rd (nrC d) (G.length:Int)=some (iQ d G.length d.aA.length):=by
   rw [jm (by rw [BP];omega),List.getElem_map,List.getElem_range]
  have bad:∀t:Nat,(∀E,PC d C limit (G++(t:Int)::E)→(G++(t:Int)::E).length=d.aA.length→¬(kn (G++(t:Int)::E):Int)≤most)∨
   ((iQ d G.length d.aA.length).all (gdC C limit G (t:Int))=true∧(kn (G++[(t:Int)]):Int)≤most):=by
   intro t
   by_cases c1:(iQ d G.length d.aA.length).all (gdC C limit G (t:Int))=true
   ·by_cases c2:(kn (G++[(t:Int)]):Int)≤most
    ·exact .inr ⟨c1,c2⟩
    ·left
     intro E _ _ h
     have:=XU (G++(t:Int)::E) (G.length+1)
     rw [show (G++(t:Int)::E).take (G.length+1)=G++[(t:Int)] by rw [List.take_append,List.take_of_length_le (by omega)];simp] at this
     omega
   ·left
    intro E h _
    have:=(h G.length (by rw [List.length_append,List.length_cons];omega)).2.2
    rw [List.getElem_append_right (by omega),List.take_left' rfl] at this
    exact absurd (by simpa using this) c1
  have lp:∀(k i:Nat) (L1:Int),i+k=C.length→0≤L1→L1≤L→(∀t:Nat,t<i→∀E,PC d C limit (G++(t:Int)::E)→(G++(t:Int)::E).length=d.aA.length→¬(kn (G++(t:Int)::E):Int)≤most)→
   (∃L',aK (bV SCo G limit most ⟨nrC d,C,L⟩ (cmpL (sortL G))) ((i:Int),nrC d,C,L1)=some (.inl (nrC d,C,L'))∧0≤L'∧L'≤L1∧∀t:Nat,t<C.length→∀E,PC d C limit (G++(t:Int)::E)→(G++(t:Int)::E).length=d.aA.length→¬(kn (G++(t:Int)::E):Int)≤most)∨
   (∃out code L',aK (bV SCo G limit most ⟨nrC d,C,L⟩ (cmpL (sortL G))) ((i:Int),nrC d,C,L1)=some (.inr (out,code,⟨nrC d,C,L'⟩))∧0≤L'∧L'≤L1∧
     ((code=0∧PC d C limit out∧out.length=d.aA.length∧(kn out:Int)≤most)∨(code=5∧out=[]))):=by
   intro k
   induction k with
   | zero=>
    intro i L1 hi g0 g1 g2
    refine .inl ⟨L1,aV ?_,g0,Int.le_refl _,fun t ht=>g2 t (by omega)⟩
    unfold bV
    simp only
    rw [if_neg (by omega)]
   | succ k ihk=>
    intro i L1 hi g0 g1 g2
    have hi':i<C.length:=by omega
    have next:(∀E,PC d C limit (G++(i:Int)::E)→(G++(i:Int)::E).length=d.aA.length→¬(kn (G++(i:Int)::E):Int)≤most)→∀t:Nat,t<i+1→∀E,PC d C limit (G++(t:Int)::E)→(G++(t:Int)::E).length=d.aA.length→¬(kn (G++(t:Int)::E):Int)≤most:=by
     intro h t ht
     by_cases e:t=i
     ·subst e;exact h
     ·exact g2 t (by omega)
    have hgood:=ZA (s0:=SCo) hb hC (limit:=limit) hGr (by omega) (t:=(i:Int)) (by omega) (by omega)
    have hcond:(if ((cmpL (sortL G)).length:Int)≥most then (dZ (cmpL (sortL G)) (i:Int)).bind fun x49=>some (!x49) else some false)=some (!decide ((kn (G++[(i:Int)]):Int)≤most)):=by
     rw [Zy,L6,VE _ _ hcl]
     by_cases c1:(kn G:Int)≥most
     ·rw [if_pos c1,Option.bind_some]
      by_cases c2:(i:Int)∈G
      ·rw [decide_eq_true ((hmem _).2 c2),if_pos c2,decide_eq_true hk]
      ·rw [decide_eq_false (fun h=>c2 ((hmem _).1 h)),if_neg c2,decide_eq_false (by omega)]
     ·rw [if_neg c1]
      split
      ·rw [decide_eq_true hk];rfl
      ·rw [decide_eq_true (by omega)];rfl
    have st0:∀X,bV SCo G limit most ⟨nrC d,C,L⟩ (cmpL (sortL G)) ((i:Int),nrC d,C,L1)=X↔((if (kn (G++[(i:Int)]):Int)≤most then
     (if (iQ d G.length d.aA.length).all (gdC C limit G (i:Int))=true then (if L1=0 then some (.inr (.inr (([]:List Int),5,(⟨nrC d,C,L1⟩:aS)))) else (SCo (⟨nrC d,C,L1 - 1⟩,G++[(i:Int)],limit,most)).bind fun vC=>
       if vC.2.1≠3 then some (.inr (.inr (vC.1,vC.2.1,vC.2.2))) else some (.inl (((i+1:Nat):Int),vC.2.2.near,vC.2.2.gB,vC.2.2.left)))
     else some (.inl (((i+1:Nat):Int),nrC d,C,L1))) else some (.inl (((i+1:Nat):Int),nrC d,C,L1)))=X):=by
     intro X
     unfold bV dH
     simp only
     rw [if_pos (by omega),hcond,Option.bind_some,bT (by omega),hnr,Option.bind_some,hgood,Option.bind_some]
     by_cases c1:(kn (G++[(i:Int)]):Int)≤most
     ·rw [decide_eq_true c1,if_pos c1,if_neg (by decide)]
      by_cases cL:L1=0
      ·rw [if_pos cL,if_pos cL]
      ·rw [if_neg cL,if_neg cL,zO (by simp only [List.length_nil];omega),Option.bind_some,List.nil_append,zO (by rw [List.length_singleton];omega),Option.bind_some,bG (n:=L1 - 1) (by omega) (by omega)]
     ·rw [decide_eq_false c1,if_neg c1,if_pos (by decide)]
    rcases bad i with hbd | ⟨b1,b2⟩
    ·by_cases c1:(kn (G++[(i:Int)]):Int)≤most
     ·by_cases c2:(iQ d G.length d.aA.length).all (gdC C limit G (i:Int))=true
      ·
       by_cases cL:L1=0
       ·refine .inr ⟨[],5,L1,aV ((st0 _).2 ?_),g0,Int.le_refl _,.inr ⟨rfl,rfl⟩⟩
        rw [if_pos c1,if_pos c2,if_pos cL]
       ·obtain ⟨out,code,L2,r1,r2,r3,r4⟩:=ih (G++[(i:Int)]) (L1 - 1) (by rw [List.length_append,List.length_singleton];omega) (by omega) (by omega) (hG.snoc (by omega) (by omega) c2) c1
        have r1:SCo (⟨nrC d,C,L1 - 1⟩,G++[(i:Int)],limit,most)=some (out,code,⟨nrC d,C,L2⟩):=r1
        rcases r4 with ⟨rfl,r5⟩ | ⟨rfl,r5⟩ | ⟨rfl,r5,r6⟩
        ·refine .inr ⟨out,0,L2,aV ((st0 _).2 ?_),r2,by omega,.inl ⟨rfl,r5⟩⟩
         rw [if_pos c1,if_pos c2,if_neg cL,r1];rfl
        ·refine .inr ⟨out,5,L2,aV ((st0 _).2 ?_),r2,by omega,.inr ⟨rfl,r5⟩⟩
         rw [if_pos c1,if_pos c2,if_neg cL,r1];rfl
        ·have st:=(st0 (some (.inl (((i+1:Nat):Int),nrC d,C,L2)))).2 (by rw [if_pos c1,if_pos c2,if_neg cL,r1];rfl)
         rw [aX st]
         rcases ihk (i+1) L2 (by omega) r2 (by omega) (next hbd) with ⟨L',q1,q2,q3,q4⟩ | ⟨o2,c,L',q1,q2,q3,q4⟩
         ·exact .inl ⟨L',q1,q2,by omega,q4⟩
         ·exact .inr ⟨o2,c,L',q1,q2,by omega,q4⟩
      ·have st:=(st0 (some (.inl (((i+1:Nat):Int),nrC d,C,L1)))).2 (by rw [if_pos c1,if_neg c2])
       rw [aX st]
       exact ihk (i+1) L1 (by omega) g0 g1 (next hbd)
     ·have st:=(st0 (some (.inl (((i+1:Nat):Int),nrC d,C,L1)))).2 (by rw [if_neg c1])
      rw [aX st]
      exact ihk (i+1) L1 (by omega) g0 g1 (next hbd)
    ·by_cases cL:L1=0
     ·refine .inr ⟨[],5,L1,aV ((st0 _).2 ?_),g0,Int.le_refl _,.inr ⟨rfl,rfl⟩⟩
      rw [if_pos b2,if_pos b1,if_pos cL]
     ·obtain ⟨out,code,L2,r1,r2,r3,r4⟩:=ih (G++[(i:Int)]) (L1 - 1) (by rw [List.length_append,List.length_singleton];omega) (by omega) (by omega) (hG.snoc (by omega) (by omega) b1) b2
      have r1:SCo (⟨nrC d,C,L1 - 1⟩,G++[(i:Int)],limit,most)=some (out,code,⟨nrC d,C,L2⟩):=r1
      rcases r4 with ⟨rfl,r5⟩ | ⟨rfl,r5⟩ | ⟨rfl,r5,r6⟩
      ·refine .inr ⟨out,0,L2,aV ((st0 _).2 ?_),r2,by omega,.inl ⟨rfl,r5⟩⟩
       rw [if_pos b2,if_pos b1,if_neg cL,r1];rfl
      ·refine .inr ⟨out,5,L2,aV ((st0 _).2 ?_),r2,by omega,.inr ⟨rfl,r5⟩⟩
       rw [if_pos b2,if_pos b1,if_neg cL,r1];rfl
      ·have st:=(st0 (some (.inl (((i+1:Nat):Int),nrC d,C,L2)))).2 (by rw [if_pos b2,if_pos b1,if_neg cL,r1];rfl)
       rw [aX st]
       rcases ihk (i+1) L2 (by omega) r2 (by omega) (next fun E h1 h2=>by
        have:=r6 E
        rw [List.append_assoc,List.singleton_append] at this
        exact this h1 h2) with ⟨L',q1,q2,q3,q4⟩ | ⟨o2,c,L',q1,q2,q3,q4⟩
       ·exact .inl ⟨L',q1,q2,by omega,q4⟩
       ·exact .inr ⟨o2,c,L',q1,q2,by omega,q4⟩
  rcases lp C.length 0 L (by omega) h0 (Int.le_refl _) (fun t ht=>absurd ht (by omega)) with ⟨L',q1,q2,q3,q4⟩ | ⟨out,c,L',q1,q2,q3,q4⟩
  ·have q1:aK (bV SCo G limit most ⟨nrC d,C,L⟩ (cmpL (sortL G))) (0,nrC d,C,L)=_:=q1
   rw [q1]
   refine ⟨[],3,L',rfl,q2,q3,.inr (.inr ⟨rfl,rfl,fun E h1 h2=>?_⟩)⟩
   cases E with
   | nil=>rw [List.append_nil] at h2;omega
   | cons x E=>
    have hx:=h1.range x (by simp)
    obtain ⟨t,rfl⟩:∃t:Nat,x=(t:Int):=⟨x.toNat,by omega⟩
    exact q4 t (by omega) E h1 h2
  ·have q1:aK (bV SCo G limit most ⟨nrC d,C,L⟩ (cmpL (sortL G))) (0,nrC d,C,L)=_:=q1
   rw [q1]
   refine ⟨out,c,L',rfl,q2,q3,?_⟩
   rcases q4 with q4 | q4
   ·exact .inl q4
   ·exact .inr (.inl q4)
end
def nms:List ByteArray:=[⟨#[97,115,104]⟩,⟨#[98,101,101,99,104]⟩,⟨#[98,105,114,99,104]⟩,⟨#[99,104,101,114,114,121]⟩,⟨#[101,98,111,110,121]⟩,⟨#[104,111,108,108,121]⟩,⟨#[109,97,112,108,101]⟩,⟨#[111,97,107]⟩,⟨#[114,111,115,101,119,111,111,100]⟩,⟨#[119,97,108,110,117,116]⟩]
theorem dR {a b:Array UInt8} (h:a.toList≠b.toList):¬(⟨a⟩:ByteArray)=⟨b⟩:=fun e=>h (by injection e with e;rw [e])
theorem VJ {k:Nat} (hk:k<10):∃(tb:List (List Int)) (row:List Int) (b:Int) (nm:ByteArray),nX=some tb∧rd tb (k:Int)=some row∧rd row 0=some b∧0≤b∧b≤100∧rd nms (k:Int)=some nm∧fG nm=some (b,true):=by
 have hc:k=0∨k=1∨k=2∨k=3∨k=4∨k=5∨k=6∨k=7∨k=8∨k=9:=by omega
 have key:∀{tb:List (List Int)} {row:List Int} {b:Int} {nm:ByteArray},nX=some tb→rd tb (k:Int)=some row→rd row 0=some b→0≤b→b≤100→rd nms (k:Int)=some nm→fG nm=some (b,true)→
  ∃(tb:List (List Int)) (row:List Int) (b:Int) (nm:ByteArray),nX=some tb∧rd tb (k:Int)=some row∧rd row 0=some b∧0≤b∧b≤100∧rd nms (k:Int)=some nm∧fG nm=some (b,true):=
  fun h1 h2 h3 h4 h5 h6 h7=>⟨_,_,_,_,h1,h2,h3,h4,h5,h6,h7⟩
 unfold fG kS at key ⊢
 rcases hc with rfl | rfl | rfl | rfl | rfl | rfl | rfl | rfl | rfl | rfl
 ·exact key (nm:=⟨#[97,115,104]⟩) (b:=20) rfl rfl rfl (by decide) (by decide) rfl (by rw [if_pos rfl];rfl)
 ·exact key (nm:=⟨#[98,101,101,99,104]⟩) (b:=35) rfl rfl rfl (by decide) (by decide) rfl (by rw [if_neg (dR (by decide)),if_pos rfl];rfl)
 ·exact key (nm:=⟨#[98,105,114,99,104]⟩) (b:=15) rfl rfl rfl (by decide) (by decide) rfl (by rw [if_neg (dR (by decide)),if_neg (dR (by decide)),if_pos rfl];rfl)
 ·exact key (nm:=⟨#[99,104,101,114,114,121]⟩) (b:=50) rfl rfl rfl (by decide) (by decide) rfl (by rw [if_neg (dR (by decide)),if_neg (dR (by decide)),if_neg (dR (by decide)),if_pos rfl];rfl)
 ·exact key (nm:=⟨#[101,98,111,110,121]⟩) (b:=95) rfl rfl rfl (by decide) (by decide) rfl (by rw [if_neg (dR (by decide)),if_neg (dR (by decide)),if_neg (dR (by decide)),if_neg (dR (by decide)),if_pos rfl];rfl)
 ·exact key (nm:=⟨#[104,111,108,108,121]⟩) (b:=5) rfl rfl rfl (by decide) (by decide) rfl (by rw [if_neg (dR (by decide)),if_neg (dR (by decide)),if_neg (dR (by decide)),if_neg (dR (by decide)),if_neg (dR (by decide)),if_pos rfl];rfl)
 ·exact key (nm:=⟨#[109,97,112,108,101]⟩) (b:=10) rfl rfl rfl (by decide) (by decide) rfl (by rw [if_neg (dR (by decide)),if_neg (dR (by decide)),if_neg (dR (by decide)),if_neg (dR (by decide)),if_neg (dR (by decide)),if_neg (dR (by decide)),if_pos rfl];rfl)
 ·exact key (nm:=⟨#[111,97,107]⟩) (b:=40) rfl rfl rfl (by decide) (by decide) rfl (by rw [if_neg (dR (by decide)),if_neg (dR (by decide)),if_neg (dR (by decide)),if_neg (dR (by decide)),if_neg (dR (by decide)),if_neg (dR (by decide)),if_neg (dR (by decide)),if_pos rfl];rfl)
 ·exact key (nm:=⟨#[114,111,115,101,119,111,111,100]⟩) (b:=80) rfl rfl rfl (by decide) (by decide) rfl (by rw [if_neg (dR (by decide)),if_neg (dR (by decide)),if_neg (dR (by decide)),if_neg (dR (by decide)),if_neg (dR (by decide)),if_neg (dR (by decide)),if_neg (dR (by decide)),if_neg (dR (by decide)),if_pos rfl];rfl)
 ·exact key (nm:=⟨#[119,97,108,110,117,116]⟩) (b:=70) rfl rfl rfl (by decide) (by decide) rfl (by rw [if_neg (dR (by decide)),if_neg (dR (by decide)),if_neg (dR (by decide)),if_neg (dR (by decide)),if_neg (dR (by decide)),if_neg (dR (by decide)),if_neg (dR (by decide)),if_neg (dR (by decide)),if_neg (dR (by decide)),if_pos rfl];rfl)
theorem Pj {c:List Int} (hc:∀x∈c,0≤x∧x≤255) {n:Int} (hn:n≤900000000) {s:ai} (h:Sr c n s):∃v s',lJ s=some (v,s')∧NS v=true∧Sr c (n+8) s':=by
 obtain ⟨k,s1,e1,k0,k1,h1⟩:=lq hc (by omega) h 10
 have k1:=k1 (by omega)
 obtain ⟨kk,rfl⟩:∃kk:Nat,k=(kk:Int):=⟨k.toNat,by omega⟩
 obtain ⟨tb,row,b,nm,t1,t2,t3,t4,t5,t6,t7⟩:=VJ (k:=kk) (by omega)
 obtain ⟨v,s2,e2,v0,v1,h2⟩:=lq hc (by omega) h1 21
 have v1:=v1 (by omega)
 obtain ⟨x,s3,e3,x0,x1,h3⟩:=lq hc (by omega) h2 180
 have x1:=x1 (by omega)
 obtain ⟨y,s4,e4,y0,h4⟩:=Ey hc (by omega) h3 [x,x,0,90,45] (by simp)
 have hN:tK=some nms:=rfl
 unfold lJ
 rw [e1,Option.bind_some,t1,Option.bind_some,t2,Option.bind_some,t3,Option.bind_some,e2,Option.bind_some,hN,Option.bind_some,t6,Option.bind_some,bG (n:=b+v) (by omega) (by omega),bG (n:=b+v - 10) (by omega) (by omega),abg,Option.bind_some,abh,Option.bind_some,e3,Option.bind_some,e4,Option.bind_some]
 refine ⟨_,_,rfl,?_,h4.mono (by omega)⟩
 have hy:0≤y∧y≤179:=by
  simp only [List.mem_cons,List.not_mem_nil,or_false] at y0
  omega
 have e:=Vu ⟨nm,min2 100 (max2 0 (b+v - 10)),y⟩
 generalize hm:min2 100 (max2 0 (b+v - 10))=m at e ⊢
 have hm2:0≤m∧m≤100∧b - 15≤m∧m≤b+15:=by
  rcases jd 0 (b+v - 10) with q | q<;>rcases sZ 100 (max2 0 (b+v - 10)) with p | p<;>omega
 unfold gY at e
 simp only [t7,Option.bind_some,oh,if_true] at e
 rw [bG (n:=m - b) (by omega) (by omega),decide_eq_true (show 0≤m∧m≤100 by omega),decide_eq_true (show -15≤m - b∧m - b≤15 by omega),decide_eq_true hy] at e
 simpa using e.symm
theorem VK {c:List Int} (hc:∀x∈c,0≤x∧x≤255) {n:Int} (hn:n≤900000000) {s:ai} (h:Sr c n s):Ev (lJ s) (fun r=>Sr c (n+8) r.2):=by
 obtain ⟨v,s',e,_,h'⟩:=Pj hc hn h
 exact ⟨_,e,h'⟩
theorem VL {c:List Int} (hc:∀x∈c,0≤x∧x≤255) {n:Int} (hn:n≤800000000) {s:ai} (h:Sr c n s):Ev (rD s) (fun r=>Sr c (n+20) r.2):=by
 unfold rD kD
 refine Ev.bind (VK hc (by omega) h) fun x5 h=>?_
 refine Ev.bind (Ez hc h (by omega) _) fun x7 h=>?_
 refine Ev.ite (fun _=>Ev.bind (XL hc h.2.2 (by omega) _ (by simp)) fun r h=>Ev.ret (h.mono (by omega))) fun _=>?_
 refine Ev.ite (fun _=>Ev.bind (Bo hc h.2.2 (by omega) _ (by simp)) fun r h=>Ev.ret (h.2.mono (by omega))) fun _=>?_
 refine Ev.ite (fun _=>Ev.bind (Bo hc h.2.2 (by omega) _ (by simp)) fun r h=>Ev.ret (h.2.mono (by omega))) fun _=>?_
 exact Ev.ret (h.2.2.mono (by omega))
theorem I5 {c:List Int} (hc:∀x∈c,0≤x∧x≤255) {n:Int} (hn:n≤700000000) {s:ai} (h:Sr c n s):Ev (jg s) (fun r=>r.1.length≤100∧Sr c (n+1000) r.2):=by
 unfold jg fC
 refine Ev.bind (Ez hc h (by omega) 5) fun x8 h=>?_
 obtain ⟨k0,k1,h⟩:=h
 have k1:=k1 (by omega)
 rw [bG (n:=x8.1+1) (by omega) (by omega)]
 have lp1:∀(m:Nat) (s:ai) (n':Int) (out:List ak),out.length+m≤5→n'≤n+100 - 8*m→Sr c n' s→
  Ev (aK gV ((m:Int),s.code,s.at_,s.seed,out)) (fun r=>r.2.2.2.length≤5∧Sr c (n+100) ⟨r.1,r.2.1,r.2.2.1⟩):=by
  intro m
  induction m with
  | zero=>
   intro s n' out hm hn' hs
   refine ⟨(s.code,s.at_,s.seed,out),aV ?_,by simpa using hm,hs.mono (by omega)⟩
   unfold gV
   simp only
   rw [if_neg (by omega)]
  | succ m ih=>
   intro s n' out hm hn' hs
   obtain ⟨⟨v,s'⟩,e,hs'⟩:=VK hc (by omega) hs
   have st:gV (((m+1:Nat):Int),s.code,s.at_,s.seed,out)=some (.inl ((m:Int),s'.code,s'.at_,s'.seed,out++[v])):=by
    unfold gV
    simp only
    rw [if_pos (by omega),e,Option.bind_some,zO (by rw [List.length_singleton];omega),Option.bind_some,bG (n:=((m+1:Nat):Int) - 1) (by omega) (by omega)]
    rw [show ((m+1:Nat):Int) - 1=(m:Int) by omega]
   rw [aX st]
   exact ih s' (n'+8) (out++[v]) (by rw [List.length_append,List.length_singleton];omega) (by omega) hs'
 have lp2:∀(x35:Int×ai) (_:x35.1≤11) (m:Nat) (s:ai) (n':Int) (out:List ak),(out.length:Int)+m=max2 x35.1 out.length→out.length≤11→n'≤n+400 - 8*m→Sr c n' s→
  Ev (aK (gz x35) (s.code,s.at_,s.seed,out)) (fun r=>r.2.2.2.length≤100∧Sr c (n+400) ⟨r.1,r.2.1,r.2.2.1⟩):=by
  intro x35 hx m
  induction m with
  | zero=>
   intro s n' out hm ho hn' hs
   refine ⟨(s.code,s.at_,s.seed,out),aV ?_,by simp only;omega,hs.mono (by omega)⟩
   unfold gz
   simp only
   rw [if_neg (by rcases jd x35.1 out.length with q | q<;>omega)]
  | succ m ih=>
   intro s n' out hm ho hn' hs
   have hlt:(out.length:Int) <x35.1:=by rcases jd x35.1 out.length with q | q<;>omega
   obtain ⟨⟨v,s'⟩,e,hs'⟩:=VK hc (by omega) hs
   have st:gz x35 (s.code,s.at_,s.seed,out)=some (.inl (s'.code,s'.at_,s'.seed,out++[v])):=by
    unfold gz
    simp only
    rw [if_pos hlt,e,Option.bind_some,zO (by rw [List.length_singleton];omega),Option.bind_some]
   rw [aX st]
   refine ih s' (n'+8) (out++[v]) ?_ (by rw [List.length_append,List.length_singleton];omega) (by omega) hs'
   rw [List.length_append,List.length_singleton]
   rcases jd x35.1 out.length with q | q<;>rcases jd x35.1 ((out.length+1:Nat):Int) with p | p<;>omega
 obtain ⟨kk,hkk⟩:∃kk:Nat,x8.1+1=(kk:Int):=⟨(x8.1+1).toNat,by omega⟩
 rw [hkk]
 refine Ev.bind (lp1 kk x8.2 (n+2) [] (by simp only [List.length_nil];omega) (by omega) h) fun o ho=>?_
 obtain ⟨a,b,e,out⟩:=o
 obtain ⟨o1,o2⟩:=ho
 simp only at o1 o2 ⊢
 refine Ev.bind (Ez hc o2 (by omega) _) fun x20 h=>?_
 refine Ev.ite (fun _=>?_) fun _=>Ev.ite (fun _=>Ev.ret ⟨by simp,h.2.2.mono (by omega)⟩) fun _=>Ev.ite (fun _=>?_) fun _=>Ev.ret ⟨by simp only;omega,h.2.2.mono (by omega)⟩
 ·refine Ev.bind (VL hc (by omega) h.2.2) fun x25 h=>?_
  refine Ev.bind (Ev.apd (by rw [List.length_singleton];omega)) fun l hl=>?_
  subst hl
  exact Ev.ret ⟨by simp only [List.length_append,List.length_singleton];omega,h.mono (by omega)⟩
 ·refine Ev.bind (Bo hc h.2.2 (by omega) _ (by simp)) fun x35 h=>?_
  obtain ⟨h35,h⟩:=h
  have hx:x35.1=10∨x35.1=11:=by simpa using h35
  obtain ⟨m,hm⟩:∃m:Nat,(out.length:Int)+m=max2 x35.1 out.length:=⟨(max2 x35.1 out.length - out.length).toNat,by rcases jd x35.1 out.length with q | q<;>omega⟩
  refine Ev.bind (lp2 x35 (by omega) m x35.2 (n+100+2+2) out hm (by omega) (by rcases jd x35.1 out.length with q | q<;>omega) h) fun o ho=>?_
  obtain ⟨a,b,e,out⟩:=o
  exact Ev.ret ⟨ho.1,ho.2.mono (by omega)⟩
theorem VM {c:List Int} (hc:∀x∈c,0≤x∧x≤255) {n:Int} (hn:n≤700000000) {s:ai} (h:Sr c n s):Ev (lK s) (fun r=>Sr c (n+10) r.2):=by
 unfold lK
 refine Ev.bind (Vz hc h (by omega) _) fun x4 h=>?_
 refine Ev.ite (fun _=>Ev.bind (Bo hc h (by omega) _ (by simp)) fun r h=>Ev.ret (h.2.mono (by omega))) fun _=>?_
 exact Ev.bind (Ez hc h (by omega) _) fun r h=>Ev.ret (h.2.2.mono (by omega))
theorem Kq {c:List Int} (hc:∀x∈c,0≤x∧x≤255) {n:Int} (hn:n≤700000000) {s:ai} (h:Sr c n s):Ev (jI s) (fun r=>Sr c (n+10) r.2):=by
 unfold jI
 refine Ev.bind (Vz hc h (by omega) _) fun x4 h=>?_
 refine Ev.ite (fun _=>Ev.bind (Bo hc h (by omega) _ (by simp)) fun r h=>Ev.ret (h.2.mono (by omega))) fun _=>?_
 exact Ev.bind (Ez hc h (by omega) _) fun r h=>Ev.ret (h.2.2.mono (by omega))
theorem VN {c:List Int} (hc:∀x∈c,0≤x∧x≤255):∃d C l b,gW c=some (d,C,l,b)∧lT d∧C.length≤100:=by
 have:Ev (gW c) (fun r=>lT r.1∧r.2.1.length≤100):=by
  unfold gW
  refine Ev.bind (QZ c) fun s h=>?_
  obtain ⟨d,s',e,hd,h⟩:=Q5 hc (by omega) h
  refine Ev.bind (Ev.eq e) fun x13 hx=>?_
  subst hx
  refine Ev.bind (I5 hc (by omega) h) fun x15 h=>?_
  refine Ev.bind (VM hc (by omega) h.2) fun x17 h2=>?_
  refine Ev.bind (Kq hc (by omega) h2) fun x22 _=>?_
  exact Ev.ret ⟨hd.bd,h.1⟩
 obtain ⟨⟨d,C,l,b⟩,e,h1,h2⟩:=this
 exact ⟨d,C,l,b,e,h1,h2⟩
theorem VO {c:List Int} (hc:∀x∈c,0≤x∧x≤255):∃d C b,fZ c=some (d,C,b)∧lT d∧C.length≤100:=by
 have:Ev (fZ c) (fun r=>lT r.1∧r.2.1.length≤100):=by
  unfold fZ
  refine Ev.bind (QZ c) fun s h=>?_
  obtain ⟨d,s',e,hd,h⟩:=Q5 hc (by omega) h
  refine Ev.bind (Ev.eq e) fun x13 hx=>?_
  subst hx
  refine Ev.bind (I5 hc (by omega) h) fun x15 h=>?_
  refine Ev.bind (Kq hc (by omega) h.2) fun x22 _=>?_
  exact Ev.ret ⟨hd.bd,h.1⟩
 obtain ⟨⟨d,C,b⟩,e,h1,h2⟩:=this
 exact ⟨d,C,b,e,h1,h2⟩
theorem Yv {d:aG} (hb:lT d):bR d:=by
 obtain ⟨_,_,_,⟨hf,hF⟩⟩:=hb
 exact ⟨hf,fun f h=>(hF f h).2.1⟩
theorem ZB (l:List Int) (n:Int) (hl:l.length≤1048576):uB l n=some (decide (n∈l)):=by
 unfold uB
 rcases QU (f:=o5 l n) l (fun x=>!decide (x=n)) (fun _=>true) (by omega) (fun i hi=>by
  unfold o5
  rw [if_pos (by omega),jm hi,Option.bind_some]
  by_cases c:l[i]=n<;>simp [c]) (by unfold o5;rw [if_neg (by omega)]) with ⟨h1,h2⟩ | ⟨h1,i,hi,h2⟩
 ·rw [h2]
  have:¬n∈l:=fun h=>by
   have:=List.all_eq_true.1 h1 n h
   simp at this
  simp [this]
 ·rw [h2]
  have:n∈l:=by
   rw [List.all_eq_false] at h1
   obtain ⟨x,hx,h⟩:=h1
   simp at h
   exact h ▸ hx
  simp [this]
structure Vc (d:aG) (C:List ak) (limit budget:Int):Prop where
 dr:jZ d=some true
 ve:∀x∈C,NS x=true
 l1:1≤C.length
 l2:C.length≤10
 li:0≤limit∧limit≤115
 bu:1≤budget∧budget≤20000
theorem NW {d:aG} (hd:lT d) {C:List ak} (hC:C.length≤100) (limit budget:Int):
 ∃k,fH d C limit budget=some k∧(k=0∨k=1∨k=2)∧(k=0→Vc d C limit budget):=by
 obtain ⟨v,hv⟩:=Vt d hd
 unfold fH
 rw [hv,Option.bind_some]
 cases v with
 | false=>exact ⟨1,rfl,.inr (.inl rfl),fun h=>by cases h⟩
 | true=>
  rw [if_pos rfl,Vw C (by omega)]
  cases hve:C.all NS with
  | false=>exact ⟨1,rfl,.inr (.inl rfl),fun h=>by cases h⟩
  | true=>
   simp only [Option.bind_some,Bool.not_true,Bool.false_eq_true,if_false,oh]
   by_cases c1:(C.length:Int) <1
   ·rw [if_pos c1]
    exact ⟨2,rfl,.inr (.inr rfl),fun h=>by cases h⟩
   ·by_cases c2:(C.length:Int) >10
    ·rw [if_neg c1,if_pos c2]
     exact ⟨2,rfl,.inr (.inr rfl),fun h=>by cases h⟩
    ·rw [if_neg c1,if_neg c2]
     by_cases c3:0≤limit∧limit≤115
     ·by_cases c4:1≤budget∧budget≤20000
      ·rw [decide_eq_true c3,decide_eq_true c4]
       exact ⟨0,rfl,.inl rfl,fun _=>⟨hv,List.all_eq_true.1 hve,by omega,by omega,c3,c4⟩⟩
      ·rw [decide_eq_true c3,decide_eq_false c4]
       exact ⟨2,rfl,.inr (.inr rfl),fun h=>by cases h⟩
     ·rw [decide_eq_false c3]
      exact ⟨2,rfl,.inr (.inr rfl),fun h=>by cases h⟩
theorem Gv {d:aG} {C:List ak} {limit budget:Int} (h:Vc d C limit budget):fH d C limit budget=some 0:=by
 have l1:=h.l1
 have l2:=h.l2
 unfold fH
 rw [h.dr,Option.bind_some,if_pos rfl,Vw C (by omega),List.all_eq_true.2 h.ve]
 simp only [Option.bind_some,Bool.not_true,Bool.false_eq_true,if_false,oh]
 rw [if_neg (by omega),if_neg (by omega),decide_eq_true h.li,decide_eq_true h.bu]
 rfl
def CG (d:aG) (C:List ak) (limit:Int) (G:List Int):Prop:=PC d C limit G∧G.length=d.aA.length
section
variable {d:aG} (hb:bR d) {C:List ak} {limit budget:Int} (hV:Vc d C limit budget)
include hV in
theorem Vc.ok:∀x∈C,okV x:=fun x hx=>XR (hV.ve x hx)
include hb hV
theorem NY:∃out code,fP d C limit budget=some (out,code)∧((code=0∧CG d C limit out)∨code=5∨(code=3∧∀E,¬CG d C limit E)):=by
 have l2:=hV.l2
 have b:=hV.bu
 obtain ⟨out,code,L',r1,r2,r3,r4⟩:=L8 hb hV.ok (by omega) limit (C.length:Int) (by omega) d.aA.length [] budget (by simp) (by omega) b.2 PC.nil (by rw [Ph];omega)
 unfold fP
 rw [Gv hV,Option.bind_some,if_neg (by decide),BO hb,Option.bind_some,r1]
 refine ⟨out,code,rfl,?_⟩
 rcases r4 with ⟨rfl,p1,p2,_⟩ | ⟨rfl,_⟩ | ⟨rfl,_,p⟩
 ·exact .inl ⟨rfl,p1,p2⟩
 ·exact .inr (.inl rfl)
 ·refine .inr (.inr ⟨rfl,fun E hE=>p E hE.1 hE.2 ?_⟩)
  have:=VH E C.length hE.1.range
  show (kn E:Int)≤C.length
  omega
theorem ZC:∃out m code,iJ d C limit budget=some (out,m,code)∧((code=0∧CG d C limit out∧m=(kn out:Int)∧∀E,CG d C limit E→m≤(kn E:Int))∨code=5∨(code=3∧∀E,¬CG d C limit E)):=by
 have l2:=hV.l2
 have b:=hV.bu
 have lp:∀(k m:Nat) (L:Int),m+k=C.length+1→0≤L→L≤20000→(∀E,CG d C limit E→m≤kn E)→
  (aK (bY limit C) ((m:Int),nrC d,C,L)=some (.inl ())∧∀E,¬CG d C limit E)∨
  ∃out m' code,aK (bY limit C) ((m:Int),nrC d,C,L)=some (.inr (out,m',code))∧((code=0∧CG d C limit out∧m'=(kn out:Int)∧∀E,CG d C limit E→m'≤(kn E:Int))∨code=5):=by
  intro k
  induction k with
  | zero=>
   intro m L hm h0 h1 hE
   refine .inl ⟨aV ?_,fun E h=>?_⟩
   ·unfold bY
    simp only
    rw [if_neg (by omega)]
   ·have:=VH E C.length h.1.range
    have:=hE E h
    omega
  | succ k ih=>
   intro m L hm h0 h1 hE
   obtain ⟨out,code,L',r1,r2,r3,r4⟩:=L8 hb hV.ok (by omega) limit (m:Int) (by omega) d.aA.length [] L (by simp) h0 h1 PC.nil (by rw [Ph];omega)
   rcases r4 with ⟨rfl,p1,p2,p3⟩ | ⟨rfl,p⟩ | ⟨rfl,_,p⟩
   ·refine .inr ⟨out,(m:Int),0,aV ?_,.inl ⟨rfl,⟨p1,p2⟩,?_,fun E h=>by have:=hE E h;omega⟩⟩
    ·unfold bY
     simp only
     rw [if_pos (by omega),r1]
     rfl
    ·have:=hE out ⟨p1,p2⟩
     omega
   ·refine .inr ⟨[],0,5,aV ?_,.inr rfl⟩
    unfold bY
    simp only
    rw [if_pos (by omega),r1]
    rfl
   ·have st:bY limit C ((m:Int),nrC d,C,L)=some (.inl (((m+1:Nat):Int),nrC d,C,L')):=by
     unfold bY
     simp only
     rw [if_pos (by omega),r1,bT (by omega)]
     rfl
    rw [aX st]
    refine ih (m+1) L' (by omega) r2 (by omega) fun E h=>?_
    have h1:¬(kn E:Int)≤m:=p E h.1 h.2
    omega
 unfold iJ
 rw [Gv hV,Option.bind_some,if_neg (by decide),BO hb,Option.bind_some]
 rcases lp (C.length+1) 0 budget (by omega) (by omega) b.2 (fun E _=>Nat.zero_le _) with ⟨e,h⟩ | ⟨out,m,code,e,h⟩
 ·have e:aK (bY limit C) (0,nrC d,C,budget)=_:=e
  rw [e]
  exact ⟨[],0,3,rfl,.inr (.inr ⟨rfl,h⟩)⟩
 ·have e:aK (bY limit C) (0,nrC d,C,budget)=_:=e
  rw [e]
  refine ⟨out,m,code,rfl,?_⟩
  rcases h with h | h
  ·exact .inl h
  ·exact .inr (.inl h)
theorem ED {G:List Int} (hG:CG d C limit G):iG d C limit G=some true:=by
 have l2:=hV.l2
 have hF:=hb.1
 obtain ⟨g1,g2⟩:=hG
 have hr:=g1.range
 unfold iG
 rw [Gv ⟨hV.dr,hV.ve,hV.l1,hV.l2,hV.li,by omega,by omega⟩,Option.bind_some,if_neg (by omega)]
 have e1:aK (jK G C) ((0:Nat):Int)=some (.inl ()):=by
  refine lG (fun t:Nat=>(t:Int)) G.length (fun t ht=>?_) ?_
  ·obtain ⟨a,b⟩:=hr _ (List.getElem_mem ht)
   unfold jK
   rw [if_pos (by omega),jm ht,Option.bind_some,oh,Option.bind_some,bG (n:=(C.length:Int) - 1) (by omega) (by omega),decide_eq_true (show 0≤G[t]∧G[t]≤(C.length:Int) - 1 by omega),if_pos rfl,bT (by omega)]
  ·unfold jK
   rw [if_neg (by omega)]
 have e1:aK (jK G C) 0=_:=e1
 have gg:∀i (hi:i<G.length),G.getD i 0=G[i]:=fun i hi=>by rw [List.getD_eq_getElem?_getD,List.getElem?_eq_getElem hi];rfl
 have hct:∀k (hk:k<G.length) (i:Nat),(i:Int)∈iQ d k d.aA.length→∃hi:i<G.length,ctP (gC C G[k]) (gC C G[i])≥limit:=by
  intro k hk i hi
  obtain ⟨n1,n2,_⟩:=IX.1 hi
  refine ⟨by omega,?_⟩
  rcases Nat.lt_or_gt_of_ne n2 with c | c
  ·have:=List.all_eq_true.1 (g1 k hk).2.2 _ hi
   unfold gdC at this
   rw [List.length_take,Nat.min_eq_left (by omega),decide_eq_false (show ¬(i:Int)≥(k:Int) by omega),Bool.false_or,decide_eq_true_eq] at this
   have e:(G.take k).getD ((i:Int)).toNat 0=G[i]:=by
    rw [Int.toNat_natCast,List.getD_eq_getElem?_getD,List.getElem?_take,if_pos c,List.getElem?_eq_getElem (by omega)];rfl
   rw [e] at this
   exact this
  ·have hi':(k:Int)∈iQ d i d.aA.length:=VG (by omega) hi
   have:=List.all_eq_true.1 (g1 i (by omega)).2.2 _ hi'
   unfold gdC at this
   rw [List.length_take,Nat.min_eq_left (by omega),decide_eq_false (show ¬(k:Int)≥(i:Int) by omega),Bool.false_or,decide_eq_true_eq] at this
   have e:(G.take i).getD ((k:Int)).toNat 0=G[k]:=by
    rw [Int.toNat_natCast,List.getD_eq_getElem?_getD,List.getElem?_take,if_pos c,List.getElem?_eq_getElem (by omega)];rfl
   rw [e,VF] at this
   exact this
 have e2:aK (jl G limit C (nrC d)) ((0:Nat):Int)=some (.inl ()):=by
  refine lG (fun t:Nat=>(t:Int)) d.aA.length (fun k hk=>?_) ?_
  ·have hnl:=FC d k d.aA.length
   have e3:aK (jk G limit C (k:Int) (iQ d k d.aA.length)) ((0:Nat):Int)=some (.inl ()):=by
    refine lG (fun t:Nat=>(t:Int)) (iQ d k d.aA.length).length (fun j hj=>?_) ?_
    ·have hm:=List.getElem_mem hj
     obtain ⟨m0,m1⟩:=J9 hm
     unfold jk
     rw [if_pos (by omega),jm hj,Option.bind_some]
     generalize (iQ d k d.aA.length)[j]=m at m0 m1 hm
     obtain ⟨i,rfl⟩:∃i:Nat,m=(i:Int):=⟨m.toNat,by omega⟩
     obtain ⟨hi,hge⟩:=hct k (by omega) i hm
     obtain ⟨a0,a1⟩:=hr _ (List.getElem_mem (show k<G.length by omega))
     obtain ⟨b0,b1⟩:=hr _ (List.getElem_mem hi)
     obtain ⟨p1,p2⟩:=Q8 hV.ok a0 a1
     obtain ⟨q1,q2⟩:=Q8 hV.ok b0 b1
     rw [jm (show k<G.length by omega),Option.bind_some,p1,Option.bind_some,jm hi,Option.bind_some,q1,Option.bind_some,abj p2 q2,Option.bind_some,if_neg (by omega),bT (by omega)]
    ·unfold jk
     rw [if_neg (by omega)]
   have e3:aK (jk G limit C (k:Int) (iQ d k d.aA.length)) 0=_:=e3
   unfold jl
   rw [BP,if_pos (by omega),jm (by rw [BP];exact hk),Option.bind_some,List.getElem_map,List.getElem_range,e3,Option.bind_some,bT (by omega)]
  ·unfold jl
   rw [BP,if_neg (by omega)]
 have e2:aK (jl G limit C (nrC d)) 0=_:=e2
 rw [e1,Option.bind_some]
 simp only
 rw [BO hb,Option.bind_some,e2]
 rfl
end
theorem XV {d:aG} (hb:bR d) {C:List ak} {budget:Int} (hV:Vc d C 0 budget):∃out li code,jb d C budget=some (out,li,code)∧
 ((code=0∧CG d C li out∧0≤li∧li≤115∧(li<115→∀E,¬CG d C (li+1) E))∨(code≠0∧out=[]∧li=0)):=by
 have l2:=hV.l2
 have b:=hV.bu
 have lp:∀(k:Nat) (L:Int),k≤116→0≤L→L≤20000→(k<116→∀E,¬CG d C (k:Int) E)→
  aK (cO C) ((k:Int) - 1,nrC d,C,L)=some (.inl ())∨
  ∃out li code,aK (cO C) ((k:Int) - 1,nrC d,C,L)=some (.inr (out,li,code))∧((code=0∧CG d C li out∧0≤li∧li≤115∧(li<115→∀E,¬CG d C (li+1) E))∨(code≠0∧out=[]∧li=0)):=by
  intro k
  induction k with
  | zero=>
   intro L _ _ _ _
   refine .inl (aV ?_)
   unfold cO
   simp only
   rw [if_neg (by omega)]
  | succ k ih=>
   intro L hk h0 h1 hE
   have ek:((k+1:Nat):Int) - 1=(k:Int):=by omega
   rw [ek]
   obtain ⟨out,code,L',r1,r2,r3,r4⟩:=L8 hb hV.ok (by omega) (k:Int) (C.length:Int) (by omega) d.aA.length [] L (by simp) h0 h1 PC.nil (by rw [Ph];omega)
   rcases r4 with ⟨rfl,p1,p2,p3⟩ | ⟨rfl,p⟩ | ⟨rfl,_,p⟩
   ·refine .inr ⟨out,(k:Int),0,aV ?_,.inl ⟨rfl,⟨p1,p2⟩,by omega,by omega,fun hlt=>hE (by omega)⟩⟩
    unfold cO
    simp only
    rw [if_pos (by omega),r1]
    rfl
   ·refine .inr ⟨[],0,5,aV ?_,.inr ⟨by decide,rfl,rfl⟩⟩
    unfold cO
    simp only
    rw [if_pos (by omega),r1]
    rfl
   ·have st:cO C ((k:Int),nrC d,C,L)=some (.inl ((k:Int) - 1,nrC d,C,L')):=by
     unfold cO
     simp only
     rw [if_pos (by omega),r1,bG (n:=(k:Int) - 1) (by omega) (by omega)]
     rfl
    rw [aX st]
    refine ih L' (by omega) r2 (by omega) fun _ E hE=>p E hE.1 hE.2 ?_
    have:=VH E C.length hE.1.range
    show (kn E:Int)≤C.length
    omega
 unfold jb
 rw [Gv hV,Option.bind_some,if_neg (by decide),BO hb,Option.bind_some]
 rcases lp 116 budget (Nat.le_refl _) (by omega) b.2 (fun h=>absurd h (by omega)) with e | ⟨out,li,code,e,h⟩
 ·have e:aK (cO C) (115,nrC d,C,budget)=_:=e
  rw [e]
  exact ⟨[],0,3,rfl,.inr ⟨by decide,rfl,rfl⟩⟩
 ·have e:aK (cO C) (115,nrC d,C,budget)=_:=e
  rw [e]
  exact ⟨out,li,code,rfl,h⟩
theorem I7 {G:List Int} (hl:G.length≤1048576):og G=some (kn G:Int):=by
 unfold og
 have e:aK (mY G) (0,0)=some (kn G:Int):=by
  refine lG (fun k:Nat=>(((kn (G.take k):Nat):Int),(k:Int))) G.length (fun k hk=>?_) ?_
  ·have hs:slc G 0 (k:Int)=some (G.take k):=by
    unfold slc
    rw [if_pos ⟨by omega,by omega,by omega⟩]
    simp
   have hkn:kn (G.take k)≤k:=by
    have:∀(m:Nat) (l:List Int),l.length≤m→kn l≤m:=by
     intro m l h
     have:=BN (nb l) l (I4 l) fun x hx=>(IZ l).1 hx
     unfold kn
     omega
    exact this k _ (by rw [List.length_take];omega)
   unfold mY mX
   simp only
   rw [if_pos (by omega),jm hk,Option.bind_some,hs,Option.bind_some,ZB _ _ (by rw [List.length_take];omega),Option.bind_some,bT (by omega),List.take_succ_eq_append_getElem hk,L6]
   by_cases c:G[k]∈G.take k
   ·rw [decide_eq_true c,if_pos rfl,if_pos c]
   ·rw [decide_eq_false c,if_neg (by decide),if_neg c,bG (by omega) (by omega)]
    rfl
  ·unfold mY
   simp only
   rw [if_neg (by omega),List.take_length]
 rw [e]
 rfl
theorem NZ (c m:List Int) (hc:∀x∈c,0≤x∧x≤255) (hm:∀x∈m,0≤x∧x≤255):rF c m=some true:=by
 have long:∀l,∃v,pF l=some v:=fun l=>⟨_,rfl⟩
 obtain ⟨u,hu⟩:=long c
 obtain ⟨v,hv⟩:=long m
 unfold rF
 rw [hu,Option.bind_some]
 obtain ⟨t,ht⟩:∃t,(if u=true then some true else (pF m).bind fun x26=>some x26)=some t:=by
  rw [hv]
  cases u<;>exact ⟨_,rfl⟩
 rw [ht,Option.bind_some]
 cases t with
 | true=>rfl
 | false=>
 rw [if_neg (by decide)]
 obtain ⟨d,C,li,bu,e1,hd,hC⟩:=VN hc
 obtain ⟨e,D,no,e2,he,hD⟩:=VO hm
 have I8:∀(x:Option Bool),x=some true→((fZ m).bind fun rM=>
  (jb rM.1 rM.2.1 rM.2.2).bind fun y7=>
  if y7.2.2≠0 then
  (some (((y7.1.length:Int)==0)&&(y7.2.1==0)))
  else ((iG rM.1 rM.2.1 y7.2.1 y7.1).bind fun x158=>
  if x158=true then
  (if y7.2.1=115 then
  (some true)
  else ((fP rM.1 rM.2.1 (w64 (y7.2.1+1)) rM.2.2).bind fun x168=>
  some (x168.2 != 0)))
  else (some false)))=x:=by
  intro x hx
  rw [hx,e2,Option.bind_some]
  simp only
  obtain ⟨k,k1,k2,k3⟩:=NW he hD 0 no
  by_cases hk:k=0
  ·have hV:=k3 hk
   have hb:=Yv he
   obtain ⟨out,l,code,r1,r2⟩:=XV hb hV
   rw [r1,Option.bind_some]
   simp only
   rcases r2 with ⟨rfl,q1,q2,q3,q4⟩ | ⟨q1,rfl,rfl⟩
   ·rw [if_neg (by decide),ED hb (limit:=l) (budget:=no) ⟨hV.dr,hV.ve,hV.l1,hV.l2,⟨q2,q3⟩,hV.bu⟩ q1,Option.bind_some,if_pos rfl]
    by_cases c5:l=115
    ·rw [if_pos c5]
    ·rw [if_neg c5,bG (n:=l+1) (by omega) (by omega)]
     obtain ⟨o2,c2,s1,s2⟩:=NY hb (limit:=l+1) (budget:=no) ⟨hV.dr,hV.ve,hV.l1,hV.l2,⟨by omega,by omega⟩,hV.bu⟩
     rw [s1,Option.bind_some]
     rcases s2 with ⟨_,s3⟩ | rfl | ⟨rfl,_⟩
     ·exact absurd s3 (q4 (by omega) _)
     ·rfl
     ·rfl
   ·rw [if_pos q1]
    rfl
  ·unfold jb
   rw [k1,Option.bind_some,if_pos hk,Option.bind_some]
   simp only
   rw [if_pos hk]
   rfl
 rw [e1,Option.bind_some]
 simp only
 obtain ⟨k,k1,k2,k3⟩:=NW hd hC li bu
 by_cases hk:k=0
 ·have hV:=k3 hk
  have hb:=Yv hd
  have hF:=hb.1
  obtain ⟨o1,c1,r1,r2⟩:=NY hb hV
  obtain ⟨o2,q,c2,s1,s2⟩:=ZC hb hV
  rw [r1,Option.bind_some,s1,Option.bind_some]
  simp only
  rcases r2 with ⟨rfl,p⟩ | rfl | ⟨rfl,p⟩
  ·have i1:=ED hb hV p
   have kk1:=I7 (G:=o1) (by have:=p.2;omega)
   rcases s2 with ⟨rfl,t1,t2,t3⟩ | rfl | ⟨rfl,t1⟩
   ·have i2:=ED hb hV t1
    have kk2:=I7 (G:=o2) (by have:=t1.2;omega)
    have:=t3 _ p
    simp only [i1,i2,kk1,kk2,Option.bind_some]
    rw [←t2]
    simp only [ne_eq,not_true_eq_false,if_false,if_true,Option.bind_some,reduceCtorEq]
    rw [decide_eq_false (show ¬q> (kn o1:Int) by omega)]
    simpa using I8 _ rfl
   ·simp only [i1,Option.bind_some]
    simpa using I8 _ rfl
   ·exact absurd p (t1 _)
  ·rcases s2 with ⟨rfl,t1,t2,t3⟩ | rfl | ⟨rfl,t1⟩
   ·have i2:=ED hb hV t1
    have kk2:=I7 (G:=o2) (by have:=t1.2;omega)
    simp only [i2,kk2,Option.bind_some]
    rw [←t2]
    simpa using I8 _ rfl
   ·simpa using I8 _ rfl
   ·simpa using I8 _ rfl
  ·rcases s2 with ⟨rfl,t1,t2,t3⟩ | rfl | ⟨rfl,t1⟩
   ·exact absurd t1 (p _)
   ·simpa using I8 _ rfl
   ·simpa using I8 _ rfl
 ·have f1:fP d C li bu=some ([],k):=by
   unfold fP
   rw [k1,Option.bind_some,if_pos hk]
  have f2:iJ d C li bu=some ([],0,k):=by
   unfold iJ
   rw [k1,Option.bind_some,if_pos hk]
  rw [f1,Option.bind_some,f2,Option.bind_some]
  simp only
  rw [if_pos (by omega)]
  simp
end Go.Pw
