/- The plain law of FnPairs. Conditions: none. -/
import Derived.Test.YtjejfolfomknaaaTprT
import Derived.Test.YtjejfolfomknaaaSimPe
import Derived.Test.YtjejfolfomknaaaSimPn
import Derived.Test.YtjejfolfomknaaaSimRh
namespace Go.Pw
open Go.Sim (min2 max2)
set_option linter.unusedVariables false
set_option linter.unusedSimpArgs false
theorem JJ (s:ByteArray):∃v,qI s=some v:=by
 unfold qI
 by_cases c0:(s.size:Int) <1
 ·rw [if_pos c0];exact ⟨_,rfl⟩
 ·rw [if_neg c0]
  by_cases c1:(s.size:Int) >10
  ·rw [if_pos c1];exact ⟨_,rfl⟩
  ·rw [if_neg c1]
   obtain ⟨b,hb,hb1,hb2⟩:=Qp (s:=s) (i:=0) (by omega)
   have hb':bt s 0=some b:=hb
   rw [hb']
   have hloop:∃o,dB (nZ s) 0=some o:=by
    refine Nk s.size (by omega) (fun i hi=>?_) ⟨.inl (),?_⟩
    ·obtain ⟨x,hx,_⟩:=Qp (s:=s) hi
     unfold nZ
     rw [if_pos (by omega),hx]
     simp only [Option.bind_some]
     have:∃v:Bool,(if x<97 then (if x<48 then some true else some (decide (x>57))) else (if x>122 then (if x<48 then some true else some (decide (x>57))) else some false))=some v:=by
      split
      ·split<;>exact ⟨_,rfl⟩
      ·split
       ·split<;>exact ⟨_,rfl⟩
       ·exact ⟨_,rfl⟩
     obtain ⟨v,hv⟩:=this
     rw [hv]
     cases v with
     | true=>exact .inr ⟨_,rfl⟩
     | false=>exact .inl rfl
    ·unfold nZ
     rw [if_neg (by omega)]
   obtain ⟨o,ho⟩:=hloop
   rw [ho]
   have:∃v:Bool,((some b).bind fun x14=>if x14<97 then some true else (some b).bind fun x19=>some (decide (x19>122)))=some v:=by
    simp only [Option.bind_some]
    split<;>exact ⟨_,rfl⟩
   obtain ⟨v,hv⟩:=this
   rw [hv]
   cases v with
   | true=>exact ⟨_,rfl⟩
   | false=>cases o<;>exact ⟨_,rfl⟩
theorem vJ (n a b:Int):dQ n a b=some (decide (a≤n∧n≤b)):=by
 unfold dQ
 rw [Bool.decide_and]
theorem aa7 {l:List Int} {x:Int} (h:l.length≤1000000):apd 8 l [x]=some (l++[x]):=by
 unfold apd
 rw [if_pos (by simp;omega)]
theorem Np (l:List Int) (n:Int) (hl:l.length≤1048576):dM l n=some (decide (n∈l)):=by
 unfold dM ji
 rcases V7 (f:=fE l n) l (fun x=>!decide (n=x)) (fun i=>(i:Int)) (by omega) (fun i hi=>by
  unfold fE
  rw [if_pos (by omega),uq hi,Option.bind_some]
  by_cases c:n=l[i]<;>simp [c]) (by unfold fE;rw [if_neg (by omega)]) with ⟨h1,h2⟩ | ⟨h1,i,hi,h2⟩
 ·rw [h2]
  have:¬n∈l:=fun h=>by
   have:=List.all_eq_true.1 h1 n h
   simp at this
  simp [this]
 ·rw [h2]
  have:n∈l:=by
   rw [List.all_eq_false] at h1
   obtain ⟨x,hx,h⟩:=h1
   simp at h
   exact h ▸ hx
  simp [this]
theorem Uo {α:Type} {p:Prop} [Decidable p] {a b:Option α} (ha:∃r,a=some r) (hb:∃r,b=some r):∃r,(if p then a else b)=some r:=by
 split
 ·exact ha
 ·exact hb
structure Lf (l:ak):Prop where
 num:0≤l.Number∧l.Number≤999
 sh:0≤l.ai.aW∧l.ai.aW≤100
 gr:0≤l.ai.dP∧l.ai.dP≤179
theorem V8 (s:ByteArray):∃r,lJ s=some r:=by
 unfold lJ
 iterate 10 (refine Uo ?_ ?_;exact ⟨_,rfl⟩)
 exact ⟨_,rfl⟩
theorem V9 (v:jL):∃b:Bool,lK v=some b∧(b=true→(0≤v.aW∧v.aW≤100)∧0≤v.dP∧v.dP≤179):=by
 unfold lK nN
 obtain ⟨r,hr⟩:=V8 v.bC
 rw [hr]
 simp only [Option.bind_some,vJ]
 cases r.2.2.2==0 with
 | false=>exact ⟨false,rfl,fun h=>by cases h⟩
 | true=>
  by_cases h1:0≤v.aW∧v.aW≤100
  ·rw [decide_eq_true h1]
   cases decide (-15≤w64 (v.aW - r.1)∧w64 (v.aW - r.1)≤15) with
   | false=>exact ⟨false,rfl,fun h=>by cases h⟩
   | true=>exact ⟨_,rfl,fun h=>⟨h1,of_decide_eq_true h⟩⟩
  ·rw [decide_eq_false h1]
   exact ⟨false,rfl,fun h=>by cases h⟩
theorem We (b:bD) (w l:Int):∃v:Bool,og b w l=some v:=by
 unfold og
 simp only [vJ,Option.bind_some]
 cases decide (0≤b.X∧b.X≤w) with
 | false=>exact ⟨_,rfl⟩
 | true=>
  cases decide (0≤b.Y∧b.Y≤l) with
  | false=>exact ⟨_,rfl⟩
  | true=>cases decide (1≤b.Width∧b.Width≤w64 (w - b.X))<;>exact ⟨_,rfl⟩
theorem Wh (l:ak) (hd:l.aK.length≤1048576):∃b:Bool,iJ l=some b∧(b=true→Lf l):=by
 obtain ⟨n1,p1⟩:=JJ l.Id
 obtain ⟨n2,p2⟩:=JJ l.gV
 obtain ⟨v,v1,v2⟩:=V9 l.ai
 have hc:∃b,bU l.aK (fun a0=>gG a0 l.Id l.gV l.Number l.ai.bC l.ai.aW l.ai.dP l.Width l.Length l.aK)=some b:=by
  unfold bU eH
  obtain ⟨o,ho⟩:=Nk (f:=bT (fun a0=>gG a0 l.Id l.gV l.Number l.ai.bC l.ai.aW l.ai.dP l.Width l.Length l.aK) l.aK) l.aK.length (by omega) (fun i hi=>by
   unfold bT gG
   obtain ⟨q,hq⟩:=We l.aK[i] l.Width l.Length
   rw [if_pos (by omega),uq hi]
   simp only [Option.bind_some,hq]
   cases q with
   | true=>exact .inl rfl
   | false=>exact .inr ⟨_,rfl⟩) ⟨.inl (),by unfold bT;rw [if_neg (by omega)]⟩
  rw [ho]
  cases o<;>exact ⟨_,rfl⟩
 obtain ⟨c,hc⟩:=hc
 unfold iJ
 simp only [p1,p2,v1,hc,vJ,Option.bind_some]
 cases n1 with
 | false=>exact ⟨false,rfl,fun h=>by cases h⟩
 | true=>
 cases n2 with
 | false=>exact ⟨false,rfl,fun h=>by cases h⟩
 | true=>
 by_cases hn:0≤l.Number∧l.Number≤999
 ·rw [decide_eq_true hn]
  cases v with
  | false=>exact ⟨false,rfl,fun h=>by cases h⟩
  | true=>
  have hv:=v2 rfl
  cases decide (10≤l.Width∧l.Width≤20000) with
  | false=>exact ⟨false,rfl,fun h=>by cases h⟩
  | true=>
  cases decide (10≤l.Length∧l.Length≤20000) with
  | false=>exact ⟨false,rfl,fun h=>by cases h⟩
  | true=>
  cases decide ((l.aK.length:Int) >6) with
  | true=>exact ⟨false,rfl,fun h=>by cases h⟩
  | false=>exact ⟨!c,rfl,fun _=>⟨hn,hv.1,hv.2⟩⟩
 ·rw [decide_eq_false hn]
  exact ⟨false,rfl,fun h=>by cases h⟩
theorem Nq (L:List ak) (hl:L.length≤1048576) (hd:∀l∈L,l.aK.length≤1048576):∃b:Bool,di L=some b∧(b=true→L.length≤16∧∀l∈L,Lf l∧iJ l=some true):=by
 unfold di
 rcases XX (f:=jM L) L (fun l=>Lf l∧iJ l=some true) (by omega) (fun i hi=>by
  obtain ⟨v,v1,v2⟩:=Wh L[i] (hd _ (List.getElem_mem hi))
  unfold jM
  rw [if_pos (by omega),uq hi,Option.bind_some,v1,Option.bind_some]
  cases v with
  | false=>exact .inr rfl
  | true=>
   rw [if_pos rfl]
   by_cases c0:(i:Int) >0
   ·rw [if_pos c0,Nl (by omega) (by omega),uq (show i - 1<L.length by omega)]
    simp only [Option.bind_some]
    cases Op.bytesLess (L[i - 1]'(by omega)).Id.toList L[i].Id.toList with
    | true=>exact .inl ⟨rfl,v2 rfl,trivial⟩
    | false=>exact .inr rfl
   ·rw [if_neg c0]
    exact .inl ⟨rfl,v2 rfl,rfl⟩) (by
  unfold jM
  rw [if_neg (by omega)]) with ⟨q1,q2⟩ | q
 ·rw [q1]
  refine ⟨_,rfl,fun h=>⟨?_,q2⟩⟩
  have:=of_decide_eq_true h
  omega
 ·rw [q]
  exact ⟨false,rfl,fun h=>by cases h⟩
noncomputable def scP (a b:ak) (book:Bool):Int:=(je a b book).getD 0
theorem XY {a b:Int} (ha:0≤a∧a≤179) (hb:0≤b∧b≤179):∃v,mV a b=some (v,0)∧0≤v∧v≤180:=by
 unfold mV
 simp only [vJ,Option.bind_some]
 rw [decide_eq_true ha,if_pos rfl,decide_eq_true hb]
 simp only [Option.bind_some,Bool.not_true,Bool.false_eq_true,if_false]
 refine ⟨_,rfl,?_⟩
 rw [eG (n:=a - b) (by omega) (by omega),eG (n:=b - a) (by omega) (by omega)]
 rcases Dv (a - b) (b - a) with ⟨h1,h2⟩ | ⟨h1,h2⟩<;>rw [h2]
 ·rw [eG (n:=180 - (b - a)) (by omega) (by omega)]
  rcases Dw (b - a) (180 - (b - a)) with ⟨h3,h4⟩ | ⟨h3,h4⟩<;>omega
 ·rw [eG (n:=180 - (a - b)) (by omega) (by omega)]
  rcases Dw (a - b) (180 - (a - b)) with ⟨h3,h4⟩ | ⟨h3,h4⟩<;>omega
theorem WT {a b:ak} (ha:Lf a) (hb:Lf b) {g:Int} (hg:0≤g∧g≤179):∃v,ny a b g=some v∧0≤v∧v≤2000:=by
 unfold ny
 obtain ⟨v,h1,h2,h3⟩:=XY ha.gr hg
 obtain ⟨s0,s1⟩:=ha.sh
 obtain ⟨t0,t1⟩:=hb.sh
 obtain ⟨n0,n1⟩:=ha.num
 obtain ⟨m0,m1⟩:=hb.num
 rw [h1]
 simp only [Option.bind_some]
 rw [eG (n:=a.ai.aW - b.ai.aW) (by omega) (by omega),eG (n:=b.ai.aW - a.ai.aW) (by omega) (by omega),eG (n:=a.Number - b.Number) (by omega) (by omega),eG (n:=b.Number - a.Number) (by omega) (by omega)]
 have e1:0≤max2 (a.ai.aW - b.ai.aW) (b.ai.aW - a.ai.aW)∧max2 (a.ai.aW - b.ai.aW) (b.ai.aW - a.ai.aW)≤100:=by rcases Dv (a.ai.aW - b.ai.aW) (b.ai.aW - a.ai.aW) with q | q<;>omega
 have e2:0≤max2 (a.Number - b.Number) (b.Number - a.Number)∧max2 (a.Number - b.Number) (b.Number - a.Number)≤999:=by rcases Dv (a.Number - b.Number) (b.Number - a.Number) with q | q<;>omega
 generalize max2 (a.ai.aW - b.ai.aW) (b.ai.aW - a.ai.aW)=x at*
 generalize max2 (a.Number - b.Number) (b.Number - a.Number)=y at*
 have e3:0≤min2 y 20∧min2 y 20≤20:=by rcases Dw y 20 with q | q<;>omega
 generalize min2 y 20=z at*
 rw [eG (n:=3*x) (by omega) (by omega),eG (n:=3*x+v) (by omega) (by omega),eG (n:=3*x+v+z) (by omega) (by omega),eG (n:=3*x+v+500) (by omega) (by omega)]
 unfold pM oh
 rw [eG (n:=3*x+v+z+500) (by omega) (by omega),eG (n:=3*x+v+500+500) (by omega) (by omega)]
 split<;>split<;>exact ⟨_,rfl,by omega,by omega⟩
theorem WU {a b:ak} (ha:Lf a) (hb:Lf b) (book:Bool):je a b book=some (scP a b book)∧0≤scP a b book∧scP a b book≤2000:=by
 have:∃v,je a b book=some v∧0≤v∧v≤2000:=by
  unfold je
  obtain ⟨g0,g1⟩:=hb.gr
  cases book with
  | false=>exact WT ha hb hb.gr
  | true=>
   have hm:∃g,lM b.ai.dP=some g∧0≤g∧g≤179:=by
    unfold lM md
    rw [if_neg (by omega),eG (n:=180 - b.ai.dP) (by omega) (by omega)]
    refine ⟨_,rfl,?_⟩
    have h1:=Int.emod_nonneg (180 - b.ai.dP) (show (180:Int)≠0 by omega)
    have h2:=Int.emod_lt_of_pos (180 - b.ai.dP) (show (0:Int) <180 by omega)
    rw [Int.tmod_eq_emod_of_nonneg (by omega)]
    omega
   obtain ⟨g,h1,h2⟩:=hm
   rw [if_pos rfl,h1]
   exact WT ha hb h2
 obtain ⟨v,h1,h2,h3⟩:=this
 unfold scP
 rw [h1]
 exact ⟨rfl,h2,h3⟩
abbrev FPr:=(aI×(List (List Int))×(List Int)×Int)→Option aI
theorem Zv (s:aI) (P:List (List Int)) (R:List Int) (u:Int):Fs (fun self:FPr=>eY self s P R u):=by
 unfold eY
 refine Fs.ite (Fs.const _) (Fs.bind (Fs.const _) fun _=>Fs.bind (Fs.const _) fun _=>Fs.bind (Fs.loop (fun s=>?_) _) fun o=>?_)
 ·obtain ⟨a1,a2,a3,a4,a5,a6,a7⟩:=s
  unfold dK fV
  exact Fs.ite (Fs.bind (Fs.const _) fun _=>Fs.bind (Fs.const _) fun _=>Fs.bind (Fs.const _) fun _=>Fs.bind (Fs.const _) fun _=>Fs.bind (Fs.const _) fun _=>Fs.ite (Fs.bind (Fs.const _) fun _=>Fs.bind (Fs.const _) fun _=>Fs.bind (Fs.const _) fun _=>Fs.bind (Fs.const _) fun _=>Fs.bind (Fs.const _) fun _=>Fs.bind (Fs.app _) fun _=>Fs.const _) (Fs.const _)) (Fs.const _)
 ·obtain ⟨a1,a2,a3,a4,a5,a6⟩:=o
  refine Fs.bind (Fs.const _) fun _=>Fs.bind (Fs.const _) fun o=>?_
  obtain ⟨b1,b2,b3,b4,b5,b6,b7⟩:=o
  exact Fs.ite (Fs.bind (Fs.const _) fun _=>Fs.bind (Fs.app _) fun _=>Fs.const _) (Fs.const _)
noncomputable def RI:FPr:=fun s=>iT s.1 s.2.1 s.2.2.1 s.2.2.2
theorem Zw (s:aI) (P:List (List Int)) (R:List Int) (u:Int):iT s P R u=eY RI s P R u:=by
 show zn _ _=_
 rw [Kr]
 ·rfl
 ·rintro ⟨a,b,c,d⟩
  exact Zv a b c d
section
variable (L:List ak) (bk:Bool)
noncomputable def sS (a k:Int):Int:=match rd L a,rd L k with
 | some x,some y=>scP x y bk
 | _,_=>0
noncomputable def sp:List Int→Int
 | [a,k]=>sS L bk a k
 | _=>0
noncomputable def wt (ps:List (List Int)):Int:=(ps.map (sp L bk)).sum
end
inductive Mt:List Int→List (List Int)→Prop
 | nil:Mt [] []
 | pair {a:Int} {r:List Int} {ps:List (List Int)} (i:Nat) (hi:i<r.length):Mt (r.eraseIdx i) ps→Mt (a::r) ([a,r[i]]::ps)
 | skip {a:Int} {r:List Int} {ps:List (List Int)}:r.length % 2=0→Mt r ps→Mt (a::r) ps
variable {L:List ak} {bk:Bool}
theorem Nr (hL:∀x∈L,Lf x) {a k:Int} (ha:0≤a∧a<L.length) (hk:0≤k∧k<L.length):∃x y,rd L a=some x∧rd L k=some y∧je x y bk=some (sS L bk a k)∧0≤sS L bk a k∧sS L bk a k≤2000:=by
 obtain ⟨x,hx,mx⟩:=rd_some (L:=L) ha.1 ha.2
 obtain ⟨y,hy,my⟩:=rd_some (L:=L) hk.1 hk.2
 have:=WU (hL x mx) (hL y my) bk
 refine ⟨x,y,hx,hy,?_⟩
 unfold sS
 rw [hx,hy]
 exact this
theorem Zx (hL:∀x∈L,Lf x) (p:List Int):0≤sp L bk p:=by
 unfold sp
 split
 ·unfold sS
  split
  ·rename_i x y hx hy
   have m:∀{i x},rd L i=some x→x∈L:=fun {i x} h=>by
    unfold rd at h
    split at h
    ·exact List.mem_of_getElem? h
    ·cases h
   exact (WU (hL _ (m hx)) (hL _ (m hy)) bk).2.1
  ·omega
 ·omega
theorem Ur (hL:∀x∈L,Lf x):∀ps:List (List Int),0≤wt L bk ps
 | []=>by simp [wt]
 | p::ps=>by
  have h1:=Zx (bk:=bk) hL p
  have h2:=Ur hL ps
  unfold wt at*
  rw [List.map_cons,List.sum_cons];omega
theorem Gw (p:List Int) (ps:List (List Int)):wt L bk (p::ps)=sp L bk p+wt L bk ps:=by
 unfold wt
 rw [List.map_cons,List.sum_cons]
structure PG (L:List ak) (bk:Bool) (s:aI):Prop where
 l:s.list=L
 b:s.book=bk
 lo:-1≤s.left
 hi:s.left≤20000
structure PP (L:List ak) (bk:Bool) (s s':aI) (All:List (List Int)→Int→Prop) (Done:Int→Prop):Prop where
 g:PG L bk s'
 left:s'.left≤s.left
 mono:s.found=true→s'.found=true∧s'.least≤s.least
 ok:∀G:List (List Int)→Int→Prop,(s.found=true→G s.best s.least)→(∀ps v,All ps v→G ps v)→s'.found=true→G s'.best s'.least
 done:0≤s'.left→∀v,Done v→s'.found=true∧s'.least≤v
theorem PP.refl {s:aI} (h:PG L bk s) {All}:PP L bk s s All (fun _=>False):=⟨h,Int.le_refl _,fun h=>⟨h,Int.le_refl _⟩,fun _ h _=>h,fun _ _ h=>h.elim⟩
theorem PP.trans {s s' s'':aI} {A1 A2 A D1 D2 D} (h1:PP L bk s s' A1 D1) (h2:PP L bk s' s'' A2 D2) (a1:∀p v,A1 p v→A p v) (a2:∀p v,A2 p v→A p v) (d:∀v,D v→D1 v∨D2 v):PP L bk s s'' A D where
 g:=h2.g
 left:=Int.le_trans h2.left h1.left
 mono h:=by
  obtain ⟨x,y⟩:=h1.mono h
  obtain ⟨x',y'⟩:=h2.mono x
  exact ⟨x',Int.le_trans y' y⟩
 ok G hs hA:=h2.ok G (h1.ok G hs fun p v h=>hA p v (a1 p v h)) fun p v h=>hA p v (a2 p v h)
 done h v hv:=by
  rcases d v hv with q | q
  ·obtain ⟨x,y⟩:=h1.done (Int.le_trans h h2.left) v q
   obtain ⟨x',y'⟩:=h2.mono x
   exact ⟨x',Int.le_trans y' y⟩
  ·exact h2.done h v q
theorem PP.weak {s s':aI} {A A' D D'} (h:PP L bk s s' A D) (a:∀p v,A p v→A' p v) (d:∀v,D' v→D v):PP L bk s s' A' D':=
 ⟨h.g,h.left,h.mono,fun G hs hA=>h.ok G hs fun p v q=>hA p v (a p v q),fun h0 v hv=>h.done h0 v (d v hv)⟩
theorem Qq {s:aI} (h:PG L bk s) (u:Int) {All}:∃b s',iy s u=some (b,s')∧(b=false→PP L bk s s' All (fun v=>u≤v))∧(b=true→PP L bk s s' All (fun _=>False)∧(s'.found=true→u<s'.least)):=by
 obtain ⟨h1,h2,h3,h4⟩:=h
 unfold iy
 split
 ·rename_i hc
  refine ⟨false,s,rfl,fun _=>⟨⟨h1,h2,h3,h4⟩,Int.le_refl _,fun h=>⟨h,Int.le_refl _⟩,fun _ h _=>h,fun h0 v hv=>?_⟩,fun h=>by cases h⟩
  rcases hc with hc | ⟨hc,hd⟩
  ·omega
  ·exact ⟨hc,by omega⟩
 ·rename_i hc
  have hl:0≤s.left:=by
   apply Classical.byContradiction;intro q
   exact hc (.inl (by omega))
  rw [eG (n:=s.left - 1) (by omega) (by omega)]
  refine ⟨_,_,rfl,fun hb=>?_,fun hb=>⟨?_,fun hf=>?_⟩⟩
  ·have:=of_decide_eq_false hb
   exact ⟨⟨h1,h2,by show -1≤s.left - 1;omega,by show s.left - 1≤_;omega⟩,by show s.left - 1≤s.left;omega,fun h=>⟨h,Int.le_refl _⟩,fun _ h _=>h,fun h0=>by
    have h0:0≤s.left - 1:=h0
    omega⟩
  ·exact ⟨⟨h1,h2,by show -1≤s.left - 1;omega,by show s.left - 1≤_;omega⟩,by show s.left - 1≤s.left;omega,fun h=>⟨h,Int.le_refl _⟩,fun _ h _=>h,fun _ _ h=>h.elim⟩
  ·apply Classical.byContradiction;intro q
   exact hc (.inr ⟨hf,by have q:¬u<s.least:=q;omega⟩)
theorem Ns {α:Type} (a:α) (r:List α):slc (a::r) 1 ((a::r).length:Int)=some r:=by
 unfold slc
 rw [if_pos ⟨by omega,by simp;omega,by omega⟩,Int.toNat_natCast,List.take_length]
 rfl
theorem Rn (r:List Int) {i:Nat} (hi:i<r.length) (hl:r.length≤100000):QZ r (i:Int) ((i+1:Nat):Int)=some (r.eraseIdx i):=by
 unfold QZ
 rw [if_pos ⟨by omega,by omega,by omega,by omega⟩,Int.toNat_natCast,Int.toNat_natCast]
 unfold Ea
 rw [List.eraseIdx_eq_take_drop_succ]
theorem XZ (hL:∀x∈L,Lf x):∀(m:Nat) (rest:List Int),rest.length=m→(∀x∈rest,0≤x∧x<L.length)→∀(s:aI) (pairs:List (List Int)) (sum:Int),PG L bk s→(s.found=true→sum<s.least)→0≤sum→sum+2000*m≤100000→pairs.length+m≤1000→
 ∃s',iT s pairs rest sum=some s'∧PP L bk s s' (fun p v=>∃ps,Mt rest ps∧p=pairs++ps∧v=sum+wt L bk ps) (fun v=>∃ps,Mt rest ps∧v=sum+wt L bk ps):=by
 intro m
 induction m using Nat.strongRecOn with
 | ind m ih=>
  intro rest hm hr s pairs sum hs hf h0 h1 h2
  rw [Zw]
  unfold eY
  cases rest with
  | nil=>
   rw [if_pos (by simp)]
   rw [OT (by simp;omega),Option.bind_some]
   refine ⟨_,rfl,⟨hs.l,hs.b,hs.lo,hs.hi⟩,Int.le_refl _,fun h=>⟨rfl,by have:=hf h;show sum≤_;omega⟩,fun G _ hA _=>hA _ _ ⟨[],.nil,by simp,by simp [wt]⟩,fun _ v ⟨ps,hp,hv⟩=>?_⟩
   cases hp
   exact ⟨rfl,by simp [wt] at hv;show sum≤v;omega⟩
  | cons a r=>
   rw [List.length_cons] at hm
   obtain ⟨ha,hr⟩:=List.forall_mem_cons.1 hr
   rw [if_neg (by simp;omega)]
   have r0:rd (a::r) 0=some a:=rfl
   rw [r0,Option.bind_some,Ns,Option.bind_some]
   let All:List (List Int)→Int→Prop:=fun p v=>∃ps,Mt (a::r) ps∧p=pairs++ps∧v=sum+wt L bk ps
   let D:Nat→Int→Prop:=fun i v=>∃j,∃hj:j<r.length,j<i∧∃ps,Mt (r.eraseIdx j) ps∧v=sum+sS L bk a r[j]+wt L bk ps
   have lp:∀k i,i+k=r.length→∀t,PP L bk s t All (D i)→∃t',dB (dK RI pairs (a::r) sum a r) ((i:Int),t.list,t.book,t.left,t.found,t.best,t.least)=some (t'.list,t'.book,t'.left,t'.found,t'.best,t'.least)∧PP L bk s t' All (D r.length):=by
    intro k
    induction k with
    | zero=>
     intro i hi t ht
     obtain rfl:i=r.length:=by omega
     refine ⟨t,dm ?_,ht⟩
     unfold dK
     simp only
     rw [if_neg (by omega)]
    | succ k ihk=>
     intro i hi t ht
     have hlt:i<r.length:=by omega
     have hk:=hr _ (List.getElem_mem hlt)
     obtain ⟨x,y,hx,hy,hsc,s0,s1⟩:=Nr (bk:=bk) hL ha hk
     obtain ⟨b,t1,n1,n2,n3⟩:=Qq ht.g (sum+sS L bk a r[i]) (All:=All)
     have hnext:∃t2,dK RI pairs (a::r) sum a r ((i:Int),t.list,t.book,t.left,t.found,t.best,t.least)=some (.inl (((i+1:Nat):Int),t2.list,t2.book,t2.left,t2.found,t2.best,t2.least))∧PP L bk s t2 All (D (i+1)):=by
      unfold dK fV
      simp only
      rw [if_pos (by omega),uq hlt,Option.bind_some,ht.g.l,hx,Option.bind_some,hy,Option.bind_some,ht.g.b,hsc,Option.bind_some,eG (n:=sum+sS L bk a r[i]) (by omega) (by omega)]
      have et:(⟨L,bk,t.left,t.found,t.best,t.least⟩:aI)=t:=by
       obtain ⟨q1,q2,_,_⟩:=ht.g
       cases t;simp_all
      rw [et,n1,Option.bind_some,jU (by omega)]
      cases b with
      | false=>
       refine ⟨t1,rfl,ht.trans (n2 rfl) (fun _ _ h=>h) (fun _ _ h=>h) fun v ⟨j,hj,hji,ps,hp,hv⟩=>?_⟩
       by_cases c:j=i
       ·subst c
        have:=Ur (bk:=bk) hL ps
        exact .inr (by omega)
       ·exact .inl ⟨j,hj,by omega,ps,hp,hv⟩
      | true=>
       obtain ⟨n3,n4⟩:=n3 rfl
       rw [if_pos rfl,OT (by simp;omega),Option.bind_some,OT (by simp;omega),Option.bind_some,Ns,Option.bind_some,OT (by simp;omega),Option.bind_some,List.nil_append,List.nil_append,Rn r hlt (by omega),Option.bind_some]
       have el:(r.eraseIdx i).length=r.length - 1:=List.length_eraseIdx_of_lt hlt
       obtain ⟨t2,r1,r2⟩:=ih (r.length - 1) (by omega) (r.eraseIdx i) el (fun x hx=>hr x (List.mem_of_mem_eraseIdx hx)) t1 (pairs++[[a,r[i]]]) (sum+sS L bk a r[i]) n3.g n4 (by omega) (by omega) (by simp;omega)
       have r1:RI (t1,pairs++[[a,r[i]]],r.eraseIdx i,sum+sS L bk a r[i])=some t2:=r1
       rw [r1]
       have hw:∀ps,sum+wt L bk ([a,r[i]]::ps)=sum+sS L bk a r[i]+wt L bk ps:=fun ps=>by
        rw [Gw];show sum+(sS L bk a r[i]+_)=_;omega
       refine ⟨t2,rfl,(ht.trans n3 (A:=All) (D:=D i) (fun _ _ h=>h) (fun _ _ h=>h) fun v h=> .inl h).trans r2 (fun _ _ h=>h) (fun p v ⟨ps,hp,e,hv⟩=>⟨[a,r[i]]::ps,.pair i hlt hp,by rw [e,List.append_assoc];rfl,by rw [hw];exact hv⟩) fun v ⟨j,hj,hji,ps,hp,hv⟩=>?_⟩
       by_cases c:j=i
       ·subst c
        exact .inr ⟨ps,hp,hv⟩
       ·exact .inl ⟨j,hj,by omega,ps,hp,hv⟩
     obtain ⟨t2,e,hp⟩:=hnext
     rw [jb e]
     exact ihk (i+1) (by omega) t2 hp
   obtain ⟨t,l1,l2⟩:=lp r.length 0 (by omega) s ((PP.refl hs (All:=All)).weak (fun _ _ h=>h) fun v ⟨j,_,hj,_⟩=>by omega)
   have l1:dB (dK RI pairs (a::r) sum a r) (0,s.list,s.book,s.left,s.found,s.best,s.least)=_:=l1
   rw [l1]
   simp only [Option.bind_some]
   have hmd:md ((a::r).length:Int) 2=some (((r.length+1) % 2:Nat):Int):=by
    unfold md
    rw [if_neg (by omega),List.length_cons,Int.tmod_eq_emod_of_nonneg (by omega)]
    simp
   rw [hmd,Option.bind_some]
   have et:(⟨t.list,t.book,t.left,t.found,t.best,t.least⟩:aI)=t:=rfl
   by_cases c:r.length % 2=0
   ·rw [if_pos (by omega)]
    obtain ⟨b,t1,n1,n2,n3⟩:=Qq l2.g sum (All:=All)
    rw [et,n1]
    cases b with
    | false=>
     refine ⟨t1,rfl,l2.trans (n2 rfl) (fun _ _ h=>h) (fun _ _ h=>h) fun v ⟨ps,hp,hv⟩=>?_⟩
     cases hp with
     | pair i hi hp=>exact .inl ⟨i,hi,hi,_,hp,by rw [hv,Gw];show sum+(sS L bk a r[i]+_)=_;omega⟩
     | skip hc hp=>
      have:=Ur (bk:=bk) hL ps
      exact .inr (by omega)
    | true=>
     obtain ⟨n3,n4⟩:=n3 rfl
     obtain ⟨t2,r1,r2⟩:=ih r.length (by omega) r rfl hr t1 pairs sum n3.g n4 h0 (by omega) (by omega)
     have r1:RI (t1,pairs,r,sum)=some t2:=r1
     simp only [Option.bind_some,if_true]
     show ∃s',((RI (t1,pairs,r,sum)).bind fun x94=>some x94)=some s'∧_
     rw [r1]
     refine ⟨t2,rfl,(l2.trans n3 (A:=All) (D:=D r.length) (fun _ _ h=>h) (fun _ _ h=>h) fun v h=> .inl h).trans r2 (fun _ _ h=>h) (fun p v ⟨ps,hp,e,hv⟩=>⟨ps,.skip c hp,e,hv⟩) fun v ⟨ps,hp,hv⟩=>?_⟩
     cases hp with
     | pair i hi hp=>exact .inl ⟨i,hi,hi,_,hp,by rw [hv,Gw];show sum+(sS L bk a r[i]+_)=_;omega⟩
     | skip hc hp=>exact .inr ⟨ps,hp,hv⟩
   ·rw [if_neg (by omega)]
    refine ⟨t,rfl,l2.weak (fun _ _ h=>h) fun v ⟨ps,hp,hv⟩=>?_⟩
    cases hp with
    | pair i hi hp=>exact ⟨i,hi,hi,_,hp,by rw [hv,Gw];show sum+(sS L bk a r[i]+_)=_;omega⟩
    | skip hc hp=>omega
def hd0:List Int→Int
 | a::_=>a
 | []=>0
structure AP (R:Int→Prop) (ps:List (List Int)):Prop where
 two:∀p∈ps,∃x y,p=[x,y]∧R x∧R y∧x<y
 nd:ps.flatten.Nodup
 inc:ps.Pairwise fun p q=>hd0 p<hd0 q
theorem AP.tail {R:Int→Prop} {p:List Int} {ps:List (List Int)} (h:AP R (p::ps)):AP R ps:=by
 obtain ⟨h1,h2,h3⟩:=h
 rw [List.flatten_cons,List.nodup_append] at h2
 exact ⟨fun q hq=>h1 q (List.mem_cons_of_mem _ hq),h2.2.1,(List.pairwise_cons.1 h3).2⟩
theorem mem_erase {r:List Int} (hn:r.Nodup) {i:Nat} (hi:i<r.length) {x:Int}:x∈r.eraseIdx i↔x∈r∧x≠r[i]:=by
 have e:r=r.take i++r[i]::r.drop (i+1):=by rw [List.getElem_cons_drop,List.take_append_drop]
 have hn':=hn
 rw [e,List.nodup_append,List.nodup_cons] at hn'
 obtain ⟨h1,⟨h2,h3⟩,h4⟩:=hn'
 rw [List.eraseIdx_eq_take_drop_succ]
 constructor
 ·intro h
  rcases List.mem_append.1 h with h | h
  ·exact ⟨List.mem_of_mem_take h,h4 x h _ List.mem_cons_self⟩
  ·exact ⟨List.mem_of_mem_drop h,fun e=>h2 (by rw [←e];exact h)⟩
 ·rintro ⟨h,hne⟩
  rw [e] at h
  rcases List.mem_append.1 h with h | h
  ·exact List.mem_append_left _ h
  ·rcases List.mem_cons.1 h with h | h
   ·exact absurd h hne
   ·exact List.mem_append_right _ h
theorem JK {r:List Int} (h:r.Pairwise (· < ·)):r.Nodup:=h.imp fun h=>Int.ne_of_lt h
theorem JL {r:List Int} (h:r.Pairwise (· < ·)) (i:Nat):(r.eraseIdx i).Pairwise (· < ·):=h.sublist (List.eraseIdx_sublist r i)
theorem Zy {rest:List Int} {ps:List (List Int)} (h:Mt rest ps):rest.Pairwise (· < ·)→AP (·∈rest) ps∧(∀x∈ps.flatten,x∈rest)∧ps.length=rest.length / 2:=by
 induction h with
 | nil=>exact fun _=>⟨⟨by simp,by simp,.nil⟩,by simp,rfl⟩
 | @pair a r ps i hi _ ih=>
  intro hp
  obtain ⟨p1,p2⟩:=List.pairwise_cons.1 hp
  obtain ⟨⟨h1,h2,h3⟩,h4,h5⟩:=ih (JL p2 i)
  have hn:=JK p2
  have me:∀x∈r.eraseIdx i,x∈r∧x≠r[i]:=fun x hx=>(mem_erase hn hi).1 hx
  have hai:=p1 _ (List.getElem_mem hi)
  refine ⟨⟨fun p hp=>?_,?_,?_⟩,fun x hx=>?_,?_⟩
  ·rcases List.mem_cons.1 hp with rfl | hp
   ·exact ⟨a,r[i],rfl,List.mem_cons_self,List.mem_cons_of_mem _ (List.getElem_mem hi),hai⟩
   ·obtain ⟨x,y,e,hx,hy,hxy⟩:=h1 p hp
    exact ⟨x,y,e,List.mem_cons_of_mem _ (me x hx).1,List.mem_cons_of_mem _ (me y hy).1,hxy⟩
  ·rw [List.flatten_cons,List.nodup_append]
   refine ⟨by rw [List.nodup_cons];exact ⟨by simp;omega,by simp⟩,h2,fun x hx y hy e=>?_⟩
   subst e
   have:=me x (h4 x hy)
   simp only [List.mem_cons,List.not_mem_nil,or_false] at hx
   rcases hx with rfl | rfl
   ·have:=p1 x this.1;omega
   ·exact this.2 rfl
  ·rw [List.pairwise_cons]
   refine ⟨fun p hp=>?_,h3⟩
   obtain ⟨x,y,rfl,hx,_,_⟩:=h1 p hp
   exact p1 x (me x hx).1
  ·rw [List.flatten_cons] at hx
   rcases List.mem_append.1 hx with hx | hx
   ·simp only [List.mem_cons,List.not_mem_nil,or_false] at hx
    rcases hx with rfl | rfl
    ·exact List.mem_cons_self
    ·exact List.mem_cons_of_mem _ (List.getElem_mem hi)
   ·exact List.mem_cons_of_mem _ (me x (h4 x hx)).1
  ·have:=List.length_eraseIdx_of_lt hi
   rw [List.length_cons,List.length_cons,h5,this];omega
 | @skip a r ps hc _ ih=>
  intro hp
  obtain ⟨p1,p2⟩:=List.pairwise_cons.1 hp
  obtain ⟨⟨h1,h2,h3⟩,h4,h5⟩:=ih p2
  refine ⟨⟨fun p hp=>?_,h2,h3⟩,fun x hx=>List.mem_cons_of_mem _ (h4 x hx),by rw [List.length_cons];omega⟩
  obtain ⟨x,y,e,hx,hy,hxy⟩:=h1 p hp
  exact ⟨x,y,e,List.mem_cons_of_mem _ hx,List.mem_cons_of_mem _ hy,hxy⟩
theorem Nu {R:Int→Prop} {ps:List (List Int)} (h:AP R ps):ps.flatten.length=2*ps.length:=by
 have h1:=h.two
 clear h
 induction ps with
 | nil=>rfl
 | cons p ps ih=>
  obtain ⟨x,y,rfl,_⟩:=h1 p List.mem_cons_self
  rw [List.flatten_cons,List.length_append,ih (fun q hq=>h1 q (List.mem_cons_of_mem _ hq)),List.length_cons]
  simp;omega
theorem Zz:∀(m:Nat) (rest:List Int),rest.length=m→rest.Pairwise (· < ·)→∀ps,AP (·∈rest) ps→ps.length=rest.length / 2→Mt rest ps:=by
 intro m
 induction m using Nat.strongRecOn with
 | ind m ih=>
  intro rest hm hp ps hA hl
  cases rest with
  | nil=>
   obtain rfl:=List.eq_nil_of_length_eq_zero hl
   exact .nil
  | cons a r=>
   obtain ⟨p1,p2⟩:=List.pairwise_cons.1 hp
   have hn:=JK p2
   rw [List.length_cons] at hm hl
   cases ps with
   | nil=>
    have hr:r.length=0:=by simp at hl;omega
    exact .skip (by omega) (ih 0 (by omega) r hr p2 [] ⟨by simp,by simp,.nil⟩ (by simp [hr]))
   | cons p qs=>
    obtain ⟨x,y,rfl,hx,hy,hxy⟩:=hA.two p List.mem_cons_self
    rw [List.length_cons] at hl
    have hnd:=hA.nd
    rw [List.flatten_cons,List.nodup_append] at hnd
    obtain ⟨_,_,hdis⟩:=hnd
    have hq:=hA.tail
    have aa8:=(List.pairwise_cons.1 hA.inc).1
    by_cases c:x=a
    ·subst c
     have hyr:y∈r:=by
      rcases List.mem_cons.1 hy with h | h
      ·omega
      ·exact h
     obtain ⟨i,hi,rfl⟩:=List.getElem_of_mem hyr
     refine .pair i hi ?_
     have el:=List.length_eraseIdx_of_lt hi
     refine ih (r.length - 1) (by omega) _ el (JL p2 i) qs ⟨fun q hq'=>?_,hq.nd,hq.inc⟩ (by omega)
     obtain ⟨u,v,rfl,hu,hv,huv⟩:=hq.two q hq'
     have hm:∀z,z∈[u,v]→z∈x::r→z∈r.eraseIdx i:=fun z hz hz'=>by
      have hf:z∈qs.flatten:=List.mem_flatten.2 ⟨_,hq',hz⟩
      have d1:x≠z:=hdis x List.mem_cons_self z hf
      have d2:r[i]≠z:=hdis r[i] (List.mem_cons_of_mem _ List.mem_cons_self) z hf
      rcases List.mem_cons.1 hz' with h | h
      ·exact absurd h.symm d1
      ·exact (mem_erase hn hi).2 ⟨h,fun e=>d2 e.symm⟩
     exact ⟨u,v,rfl,hm u List.mem_cons_self hu,hm v (List.mem_cons_of_mem _ List.mem_cons_self) hv,huv⟩
    ·have hxr:x∈r:=by
      rcases List.mem_cons.1 hx with h | h
      ·exact absurd h c
      ·exact h
     have hax:=p1 x hxr
     have hall:∀q∈[x,y]::qs,∃u v,q=[u,v]∧u∈r∧v∈r∧u<v:=fun q hq'=>by
      obtain ⟨u,v,e,hu,hv,huv⟩:=hA.two q hq'
      have hge:x≤u:=by
       rcases List.mem_cons.1 hq' with h | h
       ·rw [h] at e;cases e;omega
       ·have:=aa8 q h
        rw [e] at this
        have:x<u:=this
        omega
      refine ⟨u,v,e,?_,?_,huv⟩
      ·rcases List.mem_cons.1 hu with h | h
       ·omega
       ·exact h
      ·rcases List.mem_cons.1 hv with h | h
       ·omega
       ·exact h
     have hA':AP (·∈r) ([x,y]::qs):=⟨hall,hA.nd,hA.inc⟩
     have hsub:∀z∈([x,y]::qs).flatten,z∈r:=fun z hz=>by
      obtain ⟨q,hq',hz⟩:=List.mem_flatten.1 hz
      obtain ⟨u,v,rfl,hu,hv,_⟩:=hall q hq'
      simp only [List.mem_cons,List.not_mem_nil,or_false] at hz
      rcases hz with rfl | rfl<;>assumption
     have h2:=JI _ _ hA.nd hsub
     rw [Nu hA',List.length_cons] at h2
     exact .skip (by omega) (ih r.length (by omega) r rfl p2 _ hA' (by rw [List.length_cons];omega))
theorem cmp_eq (x y:Int):kM x y=some (if x<y then -1 else if x>y then 1 else 0):=by
 unfold kM mW
 simp only [Option.bind_some,bne_self_eq_false,Bool.false_eq_true,if_false]
 split
 ·rfl
 ·split<;>rfl
theorem Ut {x y u v:Int} (h:x<u):aZ [x,y] [u,v]=some (-1):=by
 unfold aZ
 rw [dm (r:= .inr (-1)) (by
  unfold gI
  rw [if_pos (by simp),show rd [x,y] 0=some x from rfl,Option.bind_some,if_neg (by simp),show rd [u,v] 0=some u from rfl,Option.bind_some,cmp_eq,if_pos h,Option.bind_some,if_pos (by omega)])]
 rfl
theorem X0 {x y u v:Int} (h:u<x):aZ [x,y] [u,v]=some 1:=by
 unfold aZ
 rw [dm (r:= .inr 1) (by
  unfold gI
  rw [if_pos (by simp),show rd [x,y] 0=some x from rfl,Option.bind_some,if_neg (by simp),show rd [u,v] 0=some u from rfl,Option.bind_some,cmp_eq,if_neg (by omega),if_pos (by omega),Option.bind_some,if_pos (by omega)])]
 rfl
theorem X3 {n:Int} {ps:List (List Int)} (h:AP (fun x=>0≤x∧x<n) ps) (hl:ps.length≤1000):pO ps n=some true:=by
 unfold pO
 have:=EO (f:=lQ n ps) (fun i:Nat=>((i:Int),(ps.take i).flatten)) ps.length (r:= .inl ()) (fun i hi=>by
  obtain ⟨x,y,e,hx,hy,hxy⟩:=h.two _ (List.getElem_mem hi)
  have eps:ps=ps.take i++ps[i]::ps.drop (i+1):=by rw [List.getElem_cons_drop,List.take_append_drop]
  have hnd:=h.nd
  rw [eps,e,List.flatten_append,List.flatten_cons,List.nodup_append] at hnd
  have hdis:=hnd.2.2
  have hA:AP (fun x=>0≤x∧x<n) (ps.take i):=⟨fun p hp=>h.two p (List.mem_of_mem_take hp),hnd.1,h.inc.sublist (List.take_sublist i ps)⟩
  have fl:=Nu hA
  have tl:(ps.take i).length=i:=by rw [List.length_take];omega
  have d1:¬x∈(ps.take i).flatten:=fun h=>hdis x h x (by simp) rfl
  have d2:¬y∈(ps.take i).flatten:=fun h=>hdis y h y (by simp) rfl
  unfold lQ
  simp only
  rw [if_pos (by omega),uq hi,Option.bind_some,e,if_neg (by simp),show rd [x,y] 0=some x from rfl,show rd [x,y] 1=some y from rfl]
  simp only [Option.bind_some]
  rw [if_neg (by omega),if_neg (by omega),if_neg (by omega),Np _ _ (by omega),Np _ _ (by omega),decide_eq_false d1,decide_eq_false d2]
  simp only [Option.bind_some,Bool.false_eq_true,if_false]
  have hc:(if (i:Int) >0 then (rd ps (w64 ((i:Int) - 1))).bind fun x61=>(aZ x61 [x,y]).bind fun x64=>some (decide (x64≥0)) else some false)=some false:=by
   split
   ·rename_i c
    rw [Nl (by omega) (by omega),uq (show i - 1<ps.length by omega),Option.bind_some]
    obtain ⟨u,v,e2,_⟩:=h.two _ (List.getElem_mem (show i - 1<ps.length by omega))
    have:=(List.pairwise_iff_getElem.1 h.inc) (i - 1) i (by omega) hi (by omega)
    rw [e,e2] at this
    rw [e2,Ut (show u<x from this)]
    rfl
   ·rfl
  rw [hc]
  simp only [Option.bind_some,Bool.false_eq_true,if_false]
  rw [OT (by simp [fl,tl];omega),Option.bind_some,jU (by omega)]
  congr 4
  rw [List.take_succ_eq_append_getElem hi,List.flatten_append,e]
  simp) (by
  unfold lQ
  simp only
  rw [if_neg (by omega)])
 have e0:((0:Int),([]:List Int))=(fun i:Nat=>((i:Int),(ps.take i).flatten)) 0:=by simp
 rw [e0,this]
 rfl
section
variable {L:List ak} {bk:Bool}
theorem WV (hL:∀x∈L,Lf x) (hv:di L=some true) {ps:List (List Int)} (h:AP (fun x=>0≤x∧x< (L.length:Int)) ps) (hl:ps.length≤1000):kJ L ps bk=some (wt L bk ps,0):=by
 unfold kJ
 rw [hv,Option.bind_some,if_pos rfl,X3 h hl,Option.bind_some,if_pos rfl]
 have hb:∀p∈ps,∃x y a b,p=[x,y]∧rd L x=some a∧rd L y=some b∧je a b bk=some (sp L bk p)∧0≤sp L bk p∧sp L bk p≤2000:=fun p hp=>by
  obtain ⟨x,y,rfl,hx,hy,_⟩:=h.two p hp
  obtain ⟨a,b,h1,h2,h3,h4,h5⟩:=Nr (bk:=bk) hL hx hy
  exact ⟨x,y,a,b,rfl,h1,h2,h3,h4,h5⟩
 obtain ⟨q,_⟩:=Un (f:=kz bk L ps) ps (sp L bk) 2000 (by omega) (by omega) (fun p hp=>by
  obtain ⟨_,_,_,_,_,_,_,_,h1,h2⟩:=hb p hp
  exact ⟨h1,h2⟩) (fun s i hi=>by
  obtain ⟨x,y,a,b,e,h1,h2,h3,_⟩:=hb _ (List.getElem_mem hi)
  unfold kz
  simp only
  rw [if_pos (by omega),uq hi,Option.bind_some]
  rw [show rd ps[i] 0=some x by rw [e];rfl,show rd ps[i] 1=some y by rw [e];rfl]
  simp only [Option.bind_some,h1,h2,h3]) (fun s=>by
  unfold kz
  simp only
  rw [if_neg (by omega)])
 rw [q]
 rfl
theorem Et:∀n,(upto n).Pairwise (· < ·)
 | 0=> .nil
 | n+1=>by
  unfold upto
  rw [List.pairwise_append]
  refine ⟨Et n,List.pairwise_singleton _ _,fun a ha b hb=>?_⟩
  have:=uN.1 ha
  rw [List.mem_singleton.1 hb];omega
theorem Wi (hL:∀x∈L,Lf x) (hv:di L=some true) (hn:L.length≤16) (budget:Int):∃b v c,jZ L bk budget=some (b,v,c)∧(c≠0→b=[]∧v=0)∧
 (c=0→AP (fun x=>0≤x∧x< (L.length:Int)) b∧b.length=L.length / 2∧v=wt L bk b∧∀ps,AP (fun x=>0≤x∧x< (L.length:Int)) ps→ps.length=L.length / 2→v≤wt L bk ps):=by
 unfold jZ
 rw [hv,Option.bind_some,if_pos rfl,vJ,Option.bind_some]
 by_cases hb:1≤budget∧budget≤20000
 ·rw [decide_eq_true hb,if_pos rfl]
  have hlp:=EO (f:=jE L) (fun i:Nat=>((i:Int),upto i)) L.length (r:=upto L.length) (fun i hi=>by
   unfold jE
   simp only
   rw [if_pos (by omega),aa7 (by rw [y8];omega),Option.bind_some,jU (by omega)]
   rfl) (by
   unfold jE
   simp only
   rw [if_neg (by omega)])
  have hlp:dB (jE L) (0,[])=some (upto L.length):=hlp
  rw [hlp,Option.bind_some]
  obtain ⟨s',r1,r2⟩:=XZ (bk:=bk) hL L.length (upto L.length) (y8 _) (fun x hx=>uN.1 hx) ⟨L,bk,budget,false,[],0⟩ [] 0 ⟨rfl,rfl,by show -1≤budget;omega,by show budget≤_;omega⟩ (fun h=>by cases h) (by omega) (by omega) (by simp;omega)
  rw [r1,Option.bind_some]
  have toU:∀ps,AP (fun x=>0≤x∧x< (L.length:Int)) ps→AP (·∈upto L.length) ps:=fun ps h=>⟨fun p hp=>by
   obtain ⟨x,y,e,hx,hy,hxy⟩:=h.two p hp
   exact ⟨x,y,e,uN.2 hx,uN.2 hy,hxy⟩,h.nd,h.inc⟩
  have ofU:∀ps,AP (·∈upto L.length) ps→AP (fun x=>0≤x∧x< (L.length:Int)) ps:=fun ps h=>⟨fun p hp=>by
   obtain ⟨x,y,e,hx,hy,hxy⟩:=h.two p hp
   exact ⟨x,y,e,uN.1 hx,uN.1 hy,hxy⟩,h.nd,h.inc⟩
  by_cases hc:s'.left<0
  ·rw [if_pos hc]
   exact ⟨_,_,_,rfl,fun _=>⟨rfl,rfl⟩,fun h=>by cases h⟩
  ·rw [if_neg hc]
   have hdone:=r2.done (by omega)
   have hex:∀m (rest:List Int),rest.length=m→∃ps,Mt rest ps:=by
    intro m
    induction m using Nat.strongRecOn with
    | ind m ih=>
     intro rest hm
     cases rest with
     | nil=>exact ⟨[],.nil⟩
     | cons a r=>
      rw [List.length_cons] at hm
      cases r with
      | nil=>exact ⟨[],.skip rfl .nil⟩
      | cons b r=>
       obtain ⟨ps,h⟩:=ih r.length (by rw [List.length_cons] at hm;omega) r rfl
       exact ⟨_,.pair (r:=b::r) 0 (by simp) h⟩
   obtain ⟨ps0,h0⟩:=hex _ (upto L.length) rfl
   obtain ⟨hf,_⟩:=hdone _ ⟨ps0,h0,rfl⟩
   have hG:=r2.ok (fun b v=>AP (·∈upto L.length) b∧b.length=(upto L.length).length / 2∧v=wt L bk b) (fun h=>by cases h) (fun p v ⟨ps,hp,e,hv⟩=>by
    obtain ⟨k1,_,k3⟩:=Zy hp (Et _)
    rw [List.nil_append] at e
    subst e
    exact ⟨k1,k3,by rw [hv];omega⟩) hf
   obtain ⟨g1,g2,g3⟩:=hG
   rw [y8] at g2
   refine ⟨_,_,_,rfl,fun h=>absurd rfl h,fun _=>⟨ofU _ g1,g2,g3,fun ps hp hl=>?_⟩⟩
   obtain ⟨_,k⟩:=hdone _ ⟨ps,Zz _ _ rfl (Et _) ps (toU ps hp) (by rw [y8];exact hl),rfl⟩
   omega
 ·rw [decide_eq_false hb,if_neg (by decide)]
  exact ⟨_,_,_,rfl,fun _=>⟨rfl,rfl⟩,fun h=>by cases h⟩
theorem Uu (hv:di L=some false) (budget:Int):jZ L bk budget=some ([],0,1):=by
 unfold jZ
 rw [hv]
 rfl
end
def OU (p:List Int):Prop:=∃x y,p=[x,y]
noncomputable abbrev I7:List Int→List Int→Option Int:=fun a0 a1=>aO a0 a1
theorem Wj {p q:List Int} (hp:OU p) (hq:OU q) (hne:hd0 p≠hd0 q):I7 p q=some (if hd0 p<hd0 q then -1 else 1):=by
 obtain ⟨x,y,rfl⟩:=hp
 obtain ⟨u,v,rfl⟩:=hq
 have hne:x≠u:=hne
 show (aZ [x,y] [u,v]).bind _=some (if x<u then -1 else 1)
 by_cases c:x<u
 ·rw [Ut c,if_pos c];rfl
 ·rw [X0 (show u<x by omega),if_neg c];rfl
structure Srt (l:List (List Int)):Prop where
 two:∀p∈l,OU p
 ne:l.Pairwise fun p q=>hd0 p≠hd0 q
theorem Srt.perm {l m:List (List Int)} (h:Srt l) (hp:m.Perm l):Srt m:=⟨fun p hm=>h.two p (hp.mem_iff.1 hm),(hp.symm.pairwise_iff (fun h=>Ne.symm h)).1 h.ne⟩
theorem ZA:∀(n:Nat) (L:List (List Int)),L.length=n→∀(x:List Int) (R:List (List Int)),L.Pairwise (fun p q=>hd0 p<hd0 q)→Srt (L++x::R)→(L++x::R).length≤1048576→
 ∃M,dB (aU 0 I7) ((L.length:Int),L++x::R)=some (M++R)∧M.Perm (L++[x])∧M.Pairwise (fun p q=>hd0 p<hd0 q):=by
 intro n
 induction n with
 | zero=>
  intro L hn x R hL hS hl
  obtain rfl:=List.eq_nil_of_length_eq_zero hn
  refine ⟨[x],dm ?_,List.Perm.refl _,List.pairwise_singleton _ _⟩
  unfold aU
  simp only
  rw [if_neg (by simp)]
  rfl
 | succ n ih=>
  intro L hn x R hL hS hl
  obtain ⟨L',y,rfl⟩:∃L' y,L=L'++[y]:=by
   rcases List.eq_nil_or_concat L with rfl | ⟨L',y,rfl⟩
   ·cases hn
   ·exact ⟨L',y,List.concat_eq_append⟩
  have hl':L'.length=n:=by rw [List.length_append,List.length_singleton] at hn;omega
  have hlen:(L'++[y]++x::R).length=n+1+(R.length+1):=by rw [List.length_append,List.length_append,hl'];rfl
  have hp:w64 (((n+1:Nat):Int) - 1)=(n:Int):=by rw [eG (by omega) (by omega)];omega
  have gx:(L'++[y]++x::R)[n+1]'(by omega)=x:=by
   rw [List.getElem_append_right (by rw [List.length_append,hl',List.length_singleton];omega)]
   simp [hl']
  have gy:(L'++[y]++x::R)[n]'(by omega)=y:=by
   rw [List.getElem_append_left (by rw [List.length_append,hl',List.length_singleton];omega),List.getElem_append_right (by omega)]
   simp [hl']
  have r1:rd (L'++[y]++x::R) ((n+1:Nat):Int)=some x:=by rw [uq (by omega),gx]
  have r2:rd (L'++[y]++x::R) (n:Int)=some y:=by rw [uq (by omega),gy]
  rw [List.pairwise_append] at hL
  have tx:OU x:=hS.two x (by simp)
  have ty:OU y:=hS.two y (by simp)
  have hne:hd0 y≠hd0 x:=by
   have:=hS.ne
   rw [List.pairwise_append] at this
   exact this.2.2 y (by simp) x (by simp)
  have hcmp:=Wj tx ty (Ne.symm hne)
  by_cases c:hd0 x<hd0 y
  ·have e1:(L'++[y]++x::R).set (n+1) y=L'++[y]++y::R:=by
    rw [List.set_append_right _ _ (by rw [List.length_append,hl',List.length_singleton];omega),List.length_append,hl',List.length_singleton,Nat.sub_self]
    rfl
   have e2:(L'++[y]++y::R).set n x=L'++x::y::R:=by
    rw [List.append_assoc,List.set_append_right _ _ (by omega),hl',Nat.sub_self]
    rfl
   rw [if_pos c] at hcmp
   have st:aU 0 I7 (((n+1:Nat):Int),L'++[y]++x::R)=some (.inl ((n:Int),L'++x::y::R)):=by
    unfold aU
    simp only
    rw [if_pos (by omega),r1,Option.bind_some,hp,r2,Option.bind_some,hcmp,Option.bind_some,Option.bind_some,decide_eq_true (by omega),if_pos rfl,Option.bind_some,Option.bind_some,Option.bind_some,Int.toNat_natCast,Int.toNat_natCast,e1,uq (show n< (L'++[y]++y::R).length by rw [List.length_append,List.length_append,hl',List.length_singleton];omega)]
    simp only [Option.bind_some,e2]
   have pm:(L'++x::y::R).Perm (L'++[y]++x::R):=by
    rw [List.append_assoc]
    exact (List.Perm.swap y x R).append_left L'
   obtain ⟨M,m1,m2,m3⟩:=ih L' hl' x (y::R) hL.1 (hS.perm pm) (by rw [List.length_append] at hlen ⊢;simp at hlen ⊢;simp at hl;omega)
   rw [hl'] at m1
   rw [hn]
   refine ⟨M++[y],by rw [jb st,m1,List.append_assoc];rfl,?_,?_⟩
   ·exact (m2.append_right [y]).trans (by rw [List.append_assoc,List.append_assoc];exact (List.Perm.swap y x []).append_left L')
   ·rw [List.pairwise_append]
    refine ⟨m3,List.pairwise_singleton _ _,fun a ha b hb=>?_⟩
    rw [List.mem_singleton.1 hb]
    rcases List.mem_append.1 (m2.mem_iff.1 ha) with h | h
    ·exact hL.2.2 a h y (List.mem_singleton.2 rfl)
    ·rw [List.mem_singleton.1 h];omega
  ·rw [if_neg c] at hcmp
   rw [hn]
   refine ⟨L'++[y]++[x],dm ?_,List.Perm.refl _,?_⟩
   ·unfold aU
    simp only
    rw [if_pos (by omega),r1,Option.bind_some,hp,r2,Option.bind_some,hcmp,Option.bind_some,Option.bind_some,decide_eq_false (by omega),if_neg (by decide)]
    simp
   ·rw [List.pairwise_append,List.pairwise_append]
    refine ⟨hL,List.pairwise_singleton _ _,fun a ha b hb=>?_⟩
    rw [List.mem_singleton.1 hb]
    rcases List.mem_append.1 ha with h | h
    ·have:=hL.2.2 a h y (List.mem_singleton.2 rfl);omega
    ·rw [List.mem_singleton.1 h];omega
theorem X4:∀(R L:List (List Int)),L.Pairwise (fun p q=>hd0 p<hd0 q)→Srt (L++R)→(L++R).length≤1048576→
 ∃M,dB (aP 0 ((L++R).length:Int) I7) ((L.length:Int),L++R)=some M∧M.Perm (L++R)∧M.Pairwise (fun p q=>hd0 p<hd0 q):=by
 intro R
 induction R with
 | nil=>
  intro L hL hS hl
  refine ⟨L++[],dm ?_,List.Perm.refl _,by simpa using hL⟩
  unfold aP
  simp only [List.append_nil]
  rw [if_neg (by omega)]
 | cons x R ih=>
  intro L hL hS hl
  obtain ⟨M,m1,m2,m3⟩:=ZA L.length L rfl x R hL hS hl
  have hML:=m2.length_eq
  have st:aP 0 ((L++x::R).length:Int) I7 ((L.length:Int),L++x::R)=some (.inl ((M.length:Int),M++R)):=by
   unfold aP
   simp only
   rw [if_pos (by rw [List.length_append,List.length_cons];omega),m1,Option.bind_some,jU (by rw [List.length_append] at hl;omega),hML,List.length_append]
   rfl
  rw [jb st]
  have e:(M++R).length=(L++x::R).length:=by simp at hML ⊢;omega
  have pm:(M++R).Perm (L++x::R):=by
   have:=m2.append_right R
   simpa using this
  obtain ⟨M',n1,n2,n3⟩:=ih M m3 (hS.perm pm) (by omega)
  rw [e] at n1
  exact ⟨M',n1,n2.trans pm,n3⟩
theorem X5 {n:Nat} (h:n≤12):∃v,bits_Len (IntKind.wrap .u64 (n:Int))=some v:=by
 have hc:n=0∨n=1∨n=2∨n=3∨n=4∨n=5∨n=6∨n=7∨n=8∨n=9∨n=10∨n=11∨n=12:=by omega
 rcases hc with rfl | rfl | rfl | rfl | rfl | rfl | rfl | rfl | rfl | rfl | rfl | rfl | rfl<;>exact ⟨_,rfl⟩
abbrev FPq:=((List (List Int))×Int×Int×Int×((List Int)→(List Int)→Option Int))→Option (List (List Int))
theorem X6 (a:List (List Int)) (b c d:Int) (e:List Int→List Int→Option Int):Fs (fun self:FPq=>bJ self a b c d e):=by
 have k17:∀a b c d e f g h,Fs (fun self:FPq=>cu self a b c d e f g h):=by
  intros
  unfold cu
  exact Fs.bind (Fs.const _) fun _=>Fs.ite (Fs.const _) (Fs.bind (Fs.const _) fun _=>Fs.bind (Fs.const _) fun _=>Fs.ite (Fs.bind (Fs.app _) fun _=>Fs.const _) (Fs.bind (Fs.app _) fun _=>Fs.const _))
 have k15:∀a b c d e f g h i,Fs (fun self:FPq=>cO self a b c d e f g h i):=by
  intros
  unfold cO
  exact Fs.ite (Fs.bind (Fs.const _) fun _=>Fs.ite (Fs.const _) (k17 _ _ _ _ _ _ _ _)) (k17 _ _ _ _ _ _ _ _)
 have k10:∀a b c d e f g,Fs (fun self:FPq=>cZ self a b c d e f g):=by
  intros
  unfold cZ
  exact Fs.bind (Fs.const _) fun _=>Fs.ite (Fs.bind (Fs.const _) fun _=>k15 _ _ _ _ _ _ _ _ _) (k15 _ _ _ _ _ _ _ _ _)
 unfold bJ
 refine Fs.bind (Fs.loop (fun s=>?_) _) fun _=>Fs.const _
 obtain ⟨a1,a2,a3,a4,a5,a6⟩:=s
 unfold gm
 exact Fs.ite (Fs.const _) (Fs.ite (Fs.const _) (Fs.ite (k10 _ _ _ _ _ _ _) (Fs.bind (Fs.const _) fun _=>k10 _ _ _ _ _ _ _)))
theorem ZB (l:List (List Int)) (hS:Srt l) (hl:l.length≤12):∃M,dL l I7=some M∧M.Perm l∧M.Pairwise (fun p q=>hd0 p<hd0 q):=by
 obtain ⟨v,hv⟩:=X5 hl
 have hins:∃M,dG l 0 (l.length:Int) I7=some M∧M.Perm l∧M.Pairwise (fun p q=>hd0 p<hd0 q):=by
  unfold dG
  cases l with
  | nil=>
   refine ⟨[],?_,List.Perm.refl _,List.Pairwise.nil⟩
   rw [dm (r:=[]) (by
    unfold aP
    simp only
    rw [eG (by omega) (by omega),if_neg (by simp)])]
   rfl
  | cons x R=>
   obtain ⟨M,m1,m2,m3⟩:=X4 R [x] (List.pairwise_singleton _ _) hS (by simp at hl ⊢;omega)
   have m1:dB (aP 0 ((x::R).length:Int) I7) (1,x::R)=some M:=m1
   refine ⟨M,?_,m2,m3⟩
   rw [eG (n:=0+1) (by omega) (by omega),show (0:Int)+1=1 by omega,m1]
   rfl
 obtain ⟨M,m1,m2,m3⟩:=hins
 refine ⟨M,?_,m2,m3⟩
 unfold dL
 rw [hv,Option.bind_some]
 have e:iD l 0 (l.length:Int) v I7=some M:=by
  show zn _ _=_
  rw [Kr]
  ·show bJ _ l 0 (l.length:Int) v I7=_
   unfold bJ
   rw [dm (r:=M) (by
    unfold gm
    simp only
    rw [eG (n:=(l.length:Int) - 0) (by omega) (by omega),if_pos (by omega),m1]
    rfl)]
   rfl
  ·rintro ⟨a,b,c,d,e⟩
   exact X6 a b c d e
 rw [e]
 rfl
section
variable {L:List ak} {bk:Bool}
def Us (used:List Bool) (i:Int):Prop:=rd used i=some false
structure OkP (n:Nat) (used:List Bool) (a b:Int):Prop where
 a0:0≤a
 ab:a<b
 bn:b<n
 ua:Us used a
 ub:Us used b
theorem g12 (hL:∀x∈L,Lf x) (hn:L.length≤100) {used:List Bool} (hu:used.length=L.length) {i:Nat} (hi:i<L.length):∀(m k:Nat),k+m=L.length→i<k→∀(a b l:Int),(a=-1∨OkP L.length used a b)→
 ∃a' b' l',dB (dh bk L (i:Int) used) (a,b,l,(k:Int))=some (a',b',l')∧(a'=-1∨OkP L.length used a' b')∧(a≠-1→a'≠-1)∧(Us used i→∀k':Nat,k≤k'→k'<L.length→Us used k'→a'≠-1):=by
 intro m
 induction m with
 | zero=>
  intro k hk hik a b l h
  refine ⟨a,b,l,dm ?_,h,fun h=>h,fun _ k' h1 h2=>by omega⟩
  unfold dh
  simp only
  rw [if_neg (by omega)]
  rfl
 | succ m ih=>
  intro k hk hik a b l h
  have hkl:k<L.length:=by omega
  have hui:i<used.length:=by omega
  have huk:k<used.length:=by omega
  have r1:rd used (i:Int)=some used[i]:=uq hui
  have r2:rd used (k:Int)=some used[k]:=uq huk
  cases hvi:used[i] with
  | true=>
   refine ⟨a,b,l,dm ?_,h,fun h=>h,fun q=>?_⟩
   ·unfold dh
    simp only
    rw [if_pos (by omega),r1,hvi]
    rfl
   ·unfold Us at q
    rw [r1,hvi] at q
    cases q
  | false=>
   have hnext:∀a1 b1 l1,(a1=-1∨OkP L.length used a1 b1)→(a≠-1→a1≠-1)→(Us used k→a1≠-1)→dh bk L (i:Int) used (a,b,l,(k:Int))=some (.inl (a1,b1,l1,((k+1:Nat):Int)))→
    ∃a' b' l',dB (dh bk L (i:Int) used) (a,b,l,(k:Int))=some (a',b',l')∧(a'=-1∨OkP L.length used a' b')∧(a≠-1→a'≠-1)∧(Us used i→∀k':Nat,k≤k'→k'<L.length→Us used k'→a'≠-1):=by
    intro a1 b1 l1 h1 h2 h3 he
    obtain ⟨a',b',l',e,q1,q2,q3⟩:=ih (k+1) (by omega) (by omega) a1 b1 l1 h1
    refine ⟨a',b',l',by rw [jb he];exact e,q1,fun h=>q2 (h2 h),fun hus k' hk1 hk2 hk3=>?_⟩
    by_cases c:k'=k
    ·subst c;exact q2 (h3 hk3)
    ·exact q3 hus k' (by omega) hk2 hk3
   cases hvk:used[k] with
   | true=>
    refine hnext a b l h (fun h=>h) (fun q=>?_) ?_
    ·unfold Us at q
     rw [r2,hvk] at q
     cases q
    ·unfold dh eF
     simp only
     rw [if_pos (by omega),r1,hvi,Option.bind_some,Option.bind_some,if_pos (show (!false)=true from rfl),r2,hvk,Option.bind_some,if_pos rfl,jU (by omega)]
   | false=>
    obtain ⟨x,y,hx,hy,hsc,_⟩:=Nr (bk:=bk) hL (a:=(i:Int)) (k:=(k:Int)) ⟨by omega,by omega⟩ ⟨by omega,by omega⟩
    have hok:OkP L.length used (i:Int) (k:Int):=⟨by omega,by omega,by omega,by unfold Us;rw [r1,hvi],by unfold Us;rw [r2,hvk]⟩
    by_cases c:a<0∨sS L bk i k<l
    ·refine hnext i k (sS L bk i k) (.inr hok) (fun _=>by omega) (fun _=>by omega) ?_
     unfold dh eF
     simp only
     rw [if_pos (by omega),r1,hvi,Option.bind_some,Option.bind_some,if_pos (show (!false)=true from rfl),r2,hvk,Option.bind_some,if_neg (by decide),hx,Option.bind_some,hy,Option.bind_some,hsc,Option.bind_some,if_pos c,jU (by omega)]
    ·refine hnext a b l h (fun h=>h) (fun _=>by omega) ?_
     unfold dh eF
     simp only
     rw [if_pos (by omega),r1,hvi,Option.bind_some,Option.bind_some,if_pos (show (!false)=true from rfl),r2,hvk,Option.bind_some,if_neg (by decide),hx,Option.bind_some,hy,Option.bind_some,hsc,Option.bind_some,if_neg c,jU (by omega)]
theorem g9 (hL:∀x∈L,Lf x) (hn:L.length≤100) {used:List Bool} (hu:used.length=L.length):∀(m i:Nat),i+m=L.length→∀(a b l:Int),(a=-1∨OkP L.length used a b)→
 ∃a' b',dB (gB bk L used) (a,b,l,(i:Int))=some (a',b')∧(a'=-1∨OkP L.length used a' b')∧(a≠-1→a'≠-1)∧(∀i' k':Nat,i≤i'→i'<k'→k'<L.length→Us used i'→Us used k'→a'≠-1):=by
 intro m
 induction m with
 | zero=>
  intro i hi a b l h
  refine ⟨a,b,dm ?_,h,fun h=>h,fun i' k' h1 h2=>by omega⟩
  unfold gB
  simp only
  rw [if_neg (by omega)]
 | succ m ih=>
  intro i hi a b l h
  obtain ⟨a1,b1,l1,e1,p1,p2,p3⟩:=g12 (bk:=bk) hL hn hu (i:=i) (by omega) (L.length - (i+1)) (i+1) (by omega) (by omega) a b l h
  have st:gB bk L used (a,b,l,(i:Int))=some (.inl (a1,b1,l1,((i+1:Nat):Int))):=by
   unfold gB
   simp only
   rw [if_pos (by omega),jU (by omega),e1]
   rfl
  obtain ⟨a',b',e,q1,q2,q3⟩:=ih (i+1) (by omega) a1 b1 l1 p1
  refine ⟨a',b',by rw [jb st];exact e,q1,fun h=>q2 (p2 h),fun i' k' h1 h2 h3 h4 h5=>?_⟩
  by_cases c:i'=i
  ·subst c;exact q2 (p3 h4 k' (by omega) h3 h5)
  ·exact q3 i' k' (by omega) h2 h3 h4 h5
theorem Uw {n:Nat} {F:List Int} (hF:F.length+2≤n):∃i k:Nat,i<k∧k<n∧¬(i:Int)∈F∧¬(k:Int)∈F:=by
 have h1:((upto n).filter fun x=>decide (x∈F)).length≤F.length:=JI _ _ ((IM n).filter _) fun x hx=>by
  have:=(List.mem_filter.1 hx).2
  simpa using this
 have h2:((upto n).filter fun x=>decide (x∈F)).length+((upto n).filter fun x=>!decide (x∈F)).length=n:=by
  have key:∀l:List Int,(l.filter fun x=>decide (x∈F)).length+(l.filter fun x=>!decide (x∈F)).length=l.length:=by
   intro l
   induction l with
   | nil=>rfl
   | cons a l ih=>by_cases c:a∈F<;>simp [c]<;>omega
  rw [key,y8]
 have h3:((upto n).filter fun x=>!decide (x∈F)).Pairwise (· < ·):=(Et n).filter _
 generalize hZ:((upto n).filter fun x=>!decide (x∈F))=Z at h2 h3
 have hm:∀x∈Z,(0≤x∧x<n)∧¬x∈F:=fun x hx=>by
  rw [←hZ] at hx
  obtain ⟨p,q⟩:=List.mem_filter.1 hx
  exact ⟨uN.1 p,by simpa using q⟩
 match Z,h2,h3,hm with
 | [],h2,_,_=>simp at h2;omega
 | [_],h2,_,_=>simp at h2;omega
 | x::y::Z,_,h3,hm=>
  have hxy:=(List.pairwise_cons.1 h3).1 y List.mem_cons_self
  obtain ⟨x1,x2⟩:=hm x List.mem_cons_self
  obtain ⟨y1,y2⟩:=hm y (List.mem_cons_of_mem _ List.mem_cons_self)
  refine ⟨x.toNat,y.toNat,by omega,by omega,?_,?_⟩
  ·rwa [Int.toNat_of_nonneg x1.1]
  ·rwa [Int.toNat_of_nonneg y1.1]
structure GI (n:Nat) (out:List (List Int)) (used:List Bool):Prop where
 ul:used.length=n
 two:∀p∈out,∃x y,p=[x,y]∧(0≤x∧x< (n:Int))∧(0≤y∧y< (n:Int))∧x<y
 nd:out.flatten.Nodup
 us:∀i:Nat,i<n→rd used i=some (decide ((i:Int)∈out.flatten))
theorem Qr {R:List Int→Prop}:∀{ps:List (List Int)},(∀p∈ps,∃x y,p=[x,y]∧R p)→ps.flatten.length=2*ps.length
 | [],_=>rfl
 | p::ps,h=>by
  obtain ⟨x,y,rfl,_⟩:=h p List.mem_cons_self
  rw [List.flatten_cons,List.length_append,Qr (R:=R) (fun q hq=>h q (List.mem_cons_of_mem _ hq)),List.length_cons]
  simp;omega
theorem GI.len {n:Nat} {out:List (List Int)} {used:List Bool} (h:GI n out used):out.flatten.length=2*out.length:=
 Qr (R:=fun _=>True) fun p hp=>by
  obtain ⟨x,y,e,_⟩:=h.two p hp
  exact ⟨x,y,e,trivial⟩
theorem OV {used:List Bool} {i j:Nat} (hj:j<used.length) (hi:i<used.length):rd (used.set i true) (j:Int)=if j=i then some true else rd used (j:Int):=by
 rw [Ol,Ol]
 by_cases c:j=i
 ·subst c;rw [if_pos rfl,List.getElem?_set_self hi]
 ·rw [if_neg c,List.getElem?_set_ne (fun e=>c e.symm)]
theorem g5 (hL:∀x∈L,Lf x) (hn:L.length≤16):∀(m:Nat) (out:List (List Int)) (used:List Bool),2*out.length+m=L.length→GI L.length out used→
 ∃out',dB (iU bk L) ((m:Int),out,used)=some out'∧out'.length=L.length / 2∧∃u',GI L.length out' u':=by
 intro m
 induction m using Nat.strongRecOn with
 | ind m ih=>
  intro out used hm hI
  by_cases c:(m:Int) >1
  ·have hfl:=hI.len
   obtain ⟨i,k,hik,hkn,hi,hk⟩:=Uw (n:=L.length) (F:=out.flatten) (by omega)
   have ui:Us used i:=by unfold Us;rw [hI.us i (by omega),decide_eq_false hi]
   have uk:Us used k:=by unfold Us;rw [hI.us k (by omega),decide_eq_false hk]
   obtain ⟨a,b,e,q1,_,q3⟩:=g9 (bk:=bk) hL (by omega) hI.ul L.length 0 (by omega) (-1) (-1) 0 (.inl rfl)
   have e:dB (gB bk L used) (-1,-1,0,0)=some (a,b):=e
   rcases q1 with q1 | q1
   ·exact absurd q1 (q3 i k (by omega) hik hkn ui uk)
   ·obtain ⟨a0,ab,bn,ua,ub⟩:=q1
    obtain ⟨a,rfl⟩:=Int.eq_ofNat_of_zero_le a0
    obtain ⟨b,rfl⟩:=Int.eq_ofNat_of_zero_le (show 0≤b by omega)
    have hul:=hI.ul
    have ha:¬(a:Int)∈out.flatten:=by
     have:=hI.us a (by omega)
     rw [show rd used (a:Int)=some false from ua] at this
     simpa using this.symm
    have hb:¬(b:Int)∈out.flatten:=by
     have:=hI.us b (by omega)
     rw [show rd used (b:Int)=some false from ub] at this
     simpa using this.symm
    have st:iU bk L ((m:Int),out,used)=some (.inl (((m - 2:Nat):Int),out++[[(a:Int),(b:Int)]],(used.set a true).set b true)):=by
     unfold iU
     simp only
     rw [if_pos c,e]
     simp only [Option.bind_some]
     rw [show rd used (a:Int)=some false from ua,Option.bind_some,Int.toNat_natCast,Int.toNat_natCast,OV (by omega) (by omega),if_neg (by omega),show rd used (b:Int)=some false from ub,Option.bind_some,OT (by simp;omega),Option.bind_some,eG (n:=(m:Int) - 2) (by omega) (by omega),show (m:Int) - 2=((m - 2:Nat):Int) by omega]
    have hfe:(out++[[(a:Int),(b:Int)]]).flatten=out.flatten++[(a:Int),(b:Int)]:=by simp
    obtain ⟨out',l1,l2,l3⟩:=ih (m - 2) (by omega) (out++[[(a:Int),(b:Int)]]) ((used.set a true).set b true) (by simp;omega) ⟨by simp;exact hul,fun p hp=>by
     rcases List.mem_append.1 hp with hp | hp
     ·exact hI.two p hp
     ·rw [List.mem_singleton.1 hp]
      exact ⟨a,b,rfl,⟨by omega,by omega⟩,⟨by omega,by omega⟩,ab⟩,by
     rw [hfe,List.nodup_append]
     refine ⟨hI.nd,by simp;omega,fun x hx y hy e=>?_⟩
     subst e
     simp only [List.mem_cons,List.not_mem_nil,or_false] at hy
     rcases hy with rfl | rfl
     ·exact ha hx
     ·exact hb hx,fun j hj=>by
     rw [OV (by simp;omega) (by simp;omega),OV (by omega) (by omega),hI.us j hj,hfe]
     by_cases c1:j=b
     ·subst c1;simp
     ·by_cases c2:j=a
      ·subst c2;simp [c1]
      ·rw [if_neg c1,if_neg c2]
       congr 2
       simp only [List.mem_append,List.mem_cons,List.not_mem_nil,or_false,eq_iff_iff]
       constructor
       ·exact fun h=> .inl h
       ·rintro (h | h | h)
        ·exact h
        ·omega
        ·omega⟩
    exact ⟨out',by rw [jb st];exact l1,l2,l3⟩
  ·refine ⟨out,dm ?_,by omega,used,hI⟩
   unfold iU
   simp only
   rw [if_neg c]
theorem Ux:∀{ps:List (List Int)},(∀p∈ps,OU p)→ps.flatten.Nodup→Srt ps
 | [],_,_=>⟨by simp,.nil⟩
 | p::ps,h,hn=>by
  rw [List.flatten_cons,List.nodup_append] at hn
  have ih:=Ux (fun q hq=>h q (List.mem_cons_of_mem _ hq)) hn.2.1
  refine ⟨h,List.pairwise_cons.2 ⟨fun q hq e=>?_,ih.ne⟩⟩
  obtain ⟨x,y,rfl⟩:=h p List.mem_cons_self
  obtain ⟨u,v,rfl⟩:=h q (List.mem_cons_of_mem _ hq)
  exact hn.2.2 x List.mem_cons_self u (List.mem_flatten.2 ⟨_,hq,List.mem_cons_self⟩) e
theorem Ro (hL:∀x∈L,Lf x) (hv:di L=some true) (hn:L.length≤16):∃g,jg L bk=some (g,0)∧AP (fun x=>0≤x∧x< (L.length:Int)) g∧g.length=L.length / 2:=by
 unfold jg
 rw [hv,Option.bind_some,if_pos rfl]
 have hmk:mkl 1 (L.length:Int) false=some (List.replicate L.length false):=by
  unfold mkl
  rw [if_pos ⟨by omega,by omega⟩,Int.toNat_natCast]
 rw [hmk,Option.bind_some]
 obtain ⟨out,l1,l2,u,hI⟩:=g5 (bk:=bk) hL hn L.length [] (List.replicate L.length false) (by simp) ⟨by simp,by simp,by simp,fun i hi=>by
  rw [uq (by simpa using hi)];simp⟩
 rw [l1,Option.bind_some]
 have htw:∀p∈out,OU p:=fun p hp=>by
  obtain ⟨x,y,e,_⟩:=hI.two p hp
  exact ⟨x,y,e⟩
 obtain ⟨M,m1,m2,m3⟩:=ZB out (Ux htw hI.nd) (by omega)
 have m1:dL out (fun a0 a1=>aO a0 a1)=some M:=m1
 rw [m1]
 refine ⟨M,rfl,⟨fun p hp=>hI.two p (m2.mem_iff.1 hp),(m2.flatten.nodup_iff).2 hI.nd,m3⟩,?_⟩
 rw [m2.length_eq,l2]
theorem OW (hv:di L=some false):jg L bk=some ([],1):=by
 unfold jg
 rw [hv]
 rfl
theorem Wl (hL:∀x∈L,Lf x) (hn:L.length≤100) {k:Nat} (hk:k<L.length):∀(m t:Nat),t+m=L.length→∀(b l:Int),(b=-1∨(0≤b∧b<L.length∧b≠k∧l=sS L bk k b))→
 ∃b' l',dB (dZ bk (k:Int) L) (b,l,(t:Int))=some (b',l')∧(b'=-1∨(0≤b'∧b'<L.length∧b'≠k∧l'=sS L bk k b'))∧(b≠-1→b'≠-1)∧(∀t':Nat,t≤t'→t'<L.length→t'≠k→b'≠-1):=by
 intro m
 induction m with
 | zero=>
  intro t ht b l h
  refine ⟨b,l,dm ?_,h,fun h=>h,fun t' h1 h2=>by omega⟩
  unfold dZ
  simp only
  rw [if_neg (by omega)]
 | succ m ih=>
  intro t ht b l h
  have htl:t<L.length:=by omega
  obtain ⟨x,y,hx,hy,hsc,_⟩:=Nr (bk:=bk) hL (a:=(k:Int)) (k:=(t:Int)) ⟨by omega,by omega⟩ ⟨by omega,by omega⟩
  have hnext:∀b1 l1:Int,(b1=-1∨(0≤b1∧b1<L.length∧b1≠k∧l1=sS L bk k b1))→(b≠-1→b1≠-1)→(t≠k→b1≠-1)→dZ bk (k:Int) L (b,l,(t:Int))=some (.inl (b1,l1,((t+1:Nat):Int)))→
   ∃b' l',dB (dZ bk (k:Int) L) (b,l,(t:Int))=some (b',l')∧(b'=-1∨(0≤b'∧b'<L.length∧b'≠k∧l'=sS L bk k b'))∧(b≠-1→b'≠-1)∧(∀t':Nat,t≤t'→t'<L.length→t'≠k→b'≠-1):=by
   intro b1 l1 h1 h2 h3 he
   obtain ⟨b',l',e,q1,q2,q3⟩:=ih (t+1) (by omega) b1 l1 h1
   refine ⟨b',l',by rw [jb he];exact e,q1,fun h=>q2 (h2 h),fun t' p1 p2 p3=>?_⟩
   by_cases c:t'=t
   ·subst c;exact q2 (h3 p3)
   ·exact q3 t' (by omega) p2 p3
  by_cases c:t=k
  ·refine hnext b l h (fun h=>h) (fun q=>absurd c q) ?_
   unfold dZ fO
   simp only
   rw [if_pos (by omega),hy,Option.bind_some,if_pos (by omega),jU (by omega)]
  ·by_cases c2:b<0∨sS L bk k t<l
   ·refine hnext t (sS L bk k t) (.inr ⟨by omega,by omega,by omega,rfl⟩) (fun _=>by omega) (fun _=>by omega) ?_
    unfold dZ fO
    simp only
    rw [if_pos (by omega),hy,Option.bind_some,if_neg (by omega),hx,Option.bind_some,hsc,Option.bind_some,if_pos c2,jU (by omega)]
   ·refine hnext b l h (fun h=>h) (fun _=>by omega) ?_
    unfold dZ fO
    simp only
    rw [if_pos (by omega),hy,Option.bind_some,if_neg (by omega),hx,Option.bind_some,hsc,Option.bind_some,if_neg c2,jU (by omega)]
end
theorem ZC (L:List ak) (k:Int) (bk:Bool) (hl:L.length≤1048576) (hd:∀l∈L,l.aK.length≤1048576):∃i v c,lS L k bk=some (i,v,c)∧(c≠0→i=0∧v=0)∧
 (c=0→(0≤i∧i<L.length)∧i≠k∧(0≤k∧k<L.length)∧∃x y,rd L k=some x∧rd L i=some y∧kK x y bk=some (v,0)):=by
 obtain ⟨b,hb,hv⟩:=Nq L hl hd
 unfold lS
 rw [hb,Option.bind_some]
 cases b with
 | false=>exact ⟨_,_,_,rfl,fun _=>⟨rfl,rfl⟩,fun h=>by cases h⟩
 | true=>
  obtain ⟨hn,hf⟩:=hv rfl
  have hL:∀x∈L,Lf x:=fun x hx=>(hf x hx).1
  rw [if_pos rfl,eG (n:=(L.length:Int) - 1) (by omega) (by omega),vJ,Option.bind_some]
  by_cases c:0≤k∧k≤(L.length:Int) - 1
  ·rw [decide_eq_true c,if_pos rfl]
   by_cases c1:(L.length:Int)=1
   ·rw [if_pos c1]
    exact ⟨_,_,_,rfl,fun _=>⟨rfl,rfl⟩,fun h=>by cases h⟩
   ·rw [if_neg c1]
    obtain ⟨k,rfl⟩:=Int.eq_ofNat_of_zero_le c.1
    obtain ⟨i,v,e,q1,_,q3⟩:=Wl (bk:=bk) hL (by omega) (k:=k) (by omega) L.length 0 (by omega) (-1) 0 (.inl rfl)
    have e:dB (dZ bk (k:Int) L) (-1,0,0)=some (i,v):=e
    rw [e]
    rcases q1 with q1 | ⟨q1,q2,q4,q5⟩
    ·by_cases ck:k=0
     ·exact absurd q1 (q3 1 (by omega) (by omega) (by omega))
     ·exact absurd q1 (q3 0 (by omega) (by omega) (by omega))
    ·refine ⟨_,_,_,rfl,fun h=>absurd rfl h,fun _=>⟨⟨q1,q2⟩,q4,⟨by omega,by omega⟩,?_⟩⟩
     obtain ⟨x,y,hx,hy,hsc,_⟩:=Nr (bk:=bk) hL (a:=(k:Int)) (k:=i) ⟨by omega,by omega⟩ ⟨q1,q2⟩
     have m:∀{i:Int} {x},rd L i=some x→x∈L:=fun {i x} h=>by
      unfold rd at h
      split at h
      ·exact List.mem_of_getElem? h
      ·cases h
     refine ⟨x,y,hx,hy,?_⟩
     unfold kK
     rw [(hf x (m hx)).2,Option.bind_some,if_pos rfl,(hf y (m hy)).2,Option.bind_some,Option.bind_some,if_neg (by decide),hsc,q5]
     rfl
  ·rw [decide_eq_false c,if_neg (by decide)]
   exact ⟨_,_,_,rfl,fun _=>⟨rfl,rfl⟩,fun h=>by cases h⟩
def Sr (c:List Int) (n:Int) (s:aj):Prop:=s.code=c∧0≤s.at_∧s.at_≤n
theorem Sr.mono {c:List Int} {n m:Int} {s:aj} (h:Sr c n s) (hm:n≤m):Sr c m s:=⟨h.1,h.2.1,by have:=h.2.2;omega⟩
theorem X7 (x:Int):0≤Gq .u64 x 255∧Gq .u64 x 255≤255:=by
 unfold Gq
 have h1:(BitVec.ofInt IntKind.u64.bits x &&& BitVec.ofInt IntKind.u64.bits 255).toNat≤255:=by
  rw [BitVec.toNat_and]
  exact Nat.le_trans Nat.and_le_right (by decide)
 generalize (BitVec.ofInt IntKind.u64.bits x &&& BitVec.ofInt IntKind.u64.bits 255).toNat=k at h1
 have e:IntKind.wrap .u64 (k:Int)=(k:Int):=by
  simp only [IntKind.wrap,IntKind.signed,IntKind.bits]
  simp
  omega
 rw [e]
 omega
theorem Qs {c:List Int} (hc:∀x∈c,0≤x∧x≤255) {n:Int} (hn:n≤1000000000) {s:aj} (h:Sr c n s):∃v s',jO s=some (v,s')∧0≤v∧v≤255∧Sr c (n+1) s':=by
 obtain ⟨h1,h2,h3⟩:=h
 have e1:w64 (s.at_+1)=s.at_+1:=eG (by omega) (by omega)
 have k4:∀b,0≤b→b≤255→∃v s',iP s b=some (v,s')∧0≤v∧v≤255∧Sr c (n+1) s':=by
  intro b b1 b2
  unfold iP shr
  rw [e1]
  by_cases q:s.at_+1≤(s.code.length:Int)
  ·rw [if_pos q]
   exact ⟨_,_,rfl,b1,b2,h1,by show 0≤s.at_+1;omega,by show s.at_+1≤n+1;omega⟩
  ·rw [if_neg q,if_neg (by decide)]
   simp only [Option.bind_some]
   have a:=X7 (Int.fdiv (IntKind.wrap .u64 ((IntKind.wrap .u64 ((IntKind.wrap .u64 (s.seed*6364136223846793005))+(IntKind.wrap .u64 b)))+1442695040888963407)) (2 ^ min (Int.toNat 40) IntKind.u64.bits))
   refine ⟨_,_,rfl,?_,?_,h1,by show 0≤s.at_+1;omega,by show s.at_+1≤n+1;omega⟩
   ·rw [eG (by omega) (by omega)];exact a.1
   ·rw [eG (by omega) (by omega)];exact a.2
 unfold jO
 by_cases q:s.at_< (s.code.length:Int)
 ·rw [if_pos q]
  obtain ⟨i,hi⟩:∃i:Nat,s.at_=(i:Int):=⟨s.at_.toNat,by omega⟩
  have hlt:i<s.code.length:=by omega
  rw [hi,uq hlt,Option.bind_some]
  have hb:=hc s.code[i] (by rw [←h1];exact List.getElem_mem hlt)
  rw [eG (by omega) (by omega)]
  exact k4 _ hb.1 hb.2
 ·rw [if_neg q]
  exact k4 0 (by omega) (by omega)
theorem Gx {c:List Int} (hc:∀x∈c,0≤x∧x≤255) {n:Int} (hn:n≤999999999) {s:aj} (h:Sr c n s) (m:Int):∃v s',aJ s m=some (v,s')∧0≤v∧(1≤m→v<m)∧Sr c (n+2) s':=by
 unfold aJ
 by_cases q:m≤1
 ·rw [if_pos q]
  exact ⟨_,_,rfl,by omega,by omega,h.mono (by omega)⟩
 ·rw [if_neg q]
  obtain ⟨v,s1,e1,v1,v2,h1⟩:=Qs hc (by omega) h
  have k6:∀(x:Int) (t:aj),0≤x→Sr c (n+2) t→∃v s',iQ m x t.code t.at_ t.seed=some (v,s')∧0≤v∧(1≤m→v<m)∧Sr c (n+2) s':=by
   intro x t hx ht
   unfold iQ md
   rw [if_neg (by omega),Option.bind_some]
   have e:x.tmod m=x % m:=Int.tmod_eq_emod_of_nonneg hx
   refine ⟨_,_,rfl,?_,fun _=>?_,ht⟩
   ·rw [e];exact Int.emod_nonneg _ (by omega)
   ·rw [e];exact Int.emod_lt_of_pos _ (by omega)
  simp only [e1,Option.bind_some]
  by_cases q2:m>200
  ·rw [if_pos q2]
   obtain ⟨w,s2,e2,w1,w2,h2⟩:=Qs hc (n:=n+1) (by omega) h1
   simp only [e2,Option.bind_some]
   have a1:w64 (v*256)=v*256:=eG (by omega) (by omega)
   have a2:w64 (v*256+w)=v*256+w:=eG (by omega) (by omega)
   rw [a1,a2]
   exact k6 _ s2 (by omega) (h2.mono (by omega))
  ·rw [if_neg q2]
   exact k6 v s1 v1 (h1.mono (by omega))
theorem X8 {c:List Int} (hc:∀x∈c,0≤x∧x≤255) {n:Int} (hn:n≤999999999) {s:aj} (h:Sr c n s) (m:Int):∃v s',dV s m=some (v,s')∧Sr c (n+2) s':=by
 obtain ⟨v,s',e,_,_,h'⟩:=Gx hc hn h m
 unfold dV
 rw [e]
 exact ⟨_,_,rfl,h'⟩
theorem Uy {c:List Int} (hc:∀x∈c,0≤x∧x≤255) {n:Int} (hn:n≤999999999) {s:aj} (h:Sr c n s) (l:List Int) (hl:1≤l.length):∃v s',bH s l=some (v,s')∧v∈l∧Sr c (n+2) s':=by
 obtain ⟨v,s',e,v1,v2,h'⟩:=Gx hc hn h (l.length:Int)
 have v3:=v2 (by omega)
 obtain ⟨i,hi⟩:∃i:Nat,v=(i:Int):=⟨v.toNat,by omega⟩
 subst hi
 have hlt:i<l.length:=by omega
 unfold bH
 rw [e]
 simp only [Option.bind_some,uq hlt]
 exact ⟨_,_,rfl,List.getElem_mem hlt,h'⟩
theorem Wn (c:List Int):∃s,oZ c=some s∧Sr c 0 s:=⟨_,rfl,rfl,by show (0:Int)≤0;omega,by show (0:Int)≤0;omega⟩
theorem Wp {c:List Int} (hc:∀x∈c,0≤x∧x≤255) {n:Int} (hn:n≤999999999) {s:aj} (h:Sr c n s) (l:List ByteArray) (hl:1≤l.length):∃v s',iw s l=some (v,s')∧Sr c (n+2) s':=by
 obtain ⟨v,s',e,v1,v2,h'⟩:=Gx hc hn h (l.length:Int)
 have v3:=v2 (by omega)
 obtain ⟨i,hi⟩:∃i:Nat,v=(i:Int):=⟨v.toNat,by omega⟩
 subst hi
 have hlt:i<l.length:=by omega
 unfold iw
 rw [e]
 simp only [Option.bind_some,uq hlt]
 exact ⟨_,_,rfl,h'⟩
theorem jF {c:List Int} (hc:∀x∈c,0≤x∧x≤255) {n:Int} {s:aj} (h:Sr c n s) (hn:n≤999999999) (m:Int):Ev (aJ s m) (fun r=>0≤r.1∧(1≤m→r.1<m)∧Sr c (n+2) r.2):=by
 obtain ⟨v,s',e,h1,h2,h3⟩:=Gx hc (by omega) h m
 exact ⟨_,e,h1,h2,h3⟩
theorem Dx {c:List Int} (hc:∀x∈c,0≤x∧x≤255) {n:Int} {s:aj} (h:Sr c n s) (hn:n≤999999999) (m:Int):Ev (dV s m) (fun r=>Sr c (n+2) r.2):=by
 obtain ⟨v,s',e,h3⟩:=X8 hc (by omega) h m
 exact ⟨_,e,h3⟩
theorem rU {c:List Int} (hc:∀x∈c,0≤x∧x≤255) {n:Int} {s:aj} (h:Sr c n s) (hn:n≤999999999) (l:List Int) (hl:1≤l.length):Ev (bH s l) (fun r=>r.1∈l∧Sr c (n+2) r.2):=by
 obtain ⟨v,s',e,h1,h3⟩:=Uy hc (by omega) h l hl
 exact ⟨_,e,h1,h3⟩
theorem Qu (c:List Int):Ev (oZ c) (fun s=>Sr c 0 s):=by
 obtain ⟨s,h1,h2⟩:=Wn c
 exact ⟨s,h1,h2⟩
theorem Lc {c:List Int} (hc:∀x∈c,0≤x∧x≤255) {n:Int} {s:aj} (h:Sr c n s) (hn:n≤999999999) (l:List ByteArray) (hl:1≤l.length):Ev (iw s l) (fun r=>Sr c (n+2) r.2):=by
 obtain ⟨v,s',e,h3⟩:=Wp hc (by omega) h l hl
 exact ⟨_,e,h3⟩
theorem ZE (a b:Int):uu a b=some (if a>b then a else b):=by unfold uu;split<;>rfl
theorem Uz (a b:Int):nV a b=some (if a<b then a else b):=by unfold nV;split<;>rfl
section
variable {c:List Int} (hc:∀x∈c,0≤x∧x≤255)
include hc
theorem UA {n:Int} {s:aj} (h:Sr c n s) (hn:n≤900000000):Ev (o5 s) (fun r=>Sr c (n+8) r.2):=by
 unfold o5
 refine (jF hc h (by omega) 10).bind fun x8 ⟨a0,a1,h1⟩=>?_
 have a1:=a1 (by omega)
 have hT:∃T,tV=some T∧T.length=10∧∀r∈T,r.length=3:=⟨_,rfl,rfl,by simp⟩
 have hN:∃T,tX=some T∧T.length=10:=⟨_,rfl,rfl⟩
 obtain ⟨T,t1,t2,t3⟩:=hT
 obtain ⟨N,n1,n2⟩:=hN
 rw [t1,Option.bind_some]
 refine (Ev.rd (l:=T) a0 (by omega)).bind fun x11 ⟨m11,_⟩=>?_
 refine (Ev.rd (l:=x11) (by omega) (by have:=t3 _ m11;omega)).bind fun x13 _=>?_
 refine (jF hc h1 (by omega) 21).bind fun x16 ⟨_,_,h2⟩=>?_
 rw [n1,Option.bind_some]
 refine (Ev.rd (l:=N) a0 (by omega)).bind fun x21 _=>?_
 rw [ZE,Option.bind_some,Uz,Option.bind_some]
 refine (jF hc h2 (by omega) 180).bind fun x28 ⟨_,_,h3⟩=>?_
 refine (rU hc h3 (by omega) _ (by simp)).bind fun x33 ⟨_,h4⟩=>?_
 exact Ev.ret (h4.mono (by omega))
theorem X9 {n:Int} {s:aj} (h:Sr c n s) (hn:n≤900000000) (w l:Int):Ev (mO s w l) (fun r=>Sr c (n+8) r.2):=by
 unfold mO
 refine (jF hc h (by omega) _).bind fun x11 ⟨_,_,h1⟩=>?_
 refine (jF hc h1 (by omega) _).bind fun x16 ⟨_,_,h2⟩=>?_
 rw [Uz,Option.bind_some]
 refine (jF hc h2 (by omega) _).bind fun x24 ⟨_,_,h3⟩=>?_
 rw [Uz,Option.bind_some]
 refine (jF hc h3 (by omega) _).bind fun x33 ⟨_,_,h4⟩=>?_
 exact Ev.ret (h4.mono (by omega))
theorem UB {n:Int} {s:aj} (h:Sr c n s) (hn:n≤800000000) (id:ByteArray):Ev (jI s id) (fun r=>r.1.aK.length≤3∧Sr c (n+100) r.2):=by
 unfold jI
 refine (Lc hc h (by omega) _ (by simp)).bind fun x10 h1=>?_
 refine (jF hc h1 (by omega) _).bind fun x12 ⟨_,_,h2⟩=>?_
 refine (UA hc h2 (by omega)).bind fun x15 h3=>?_
 refine (jF hc h3 (by omega) _).bind fun x18 ⟨_,_,h4⟩=>?_
 refine (jF hc h4 (by omega) _).bind fun x22 ⟨_,_,h5⟩=>?_
 refine (jF hc h5 (by omega) _).bind fun x26 ⟨a0,a1,h6⟩=>?_
 have a1:=a1 (by omega)
 refine Ev.bind (P:=fun o=>o.2.2.2.length≤3∧Sr c (n+60) ⟨o.1,o.2.1,o.2.2.1⟩) ?_ fun o ⟨h7,h8⟩=>?_
 ·refine Ev.loop (fun s=>0≤s.1∧s.1≤3∧(s.2.2.2.2.length:Int)+s.1≤3∧Sr c (n+18+8* (3 - s.1)) ⟨s.2.1,s.2.2.1,s.2.2.2.1⟩) (fun s=>s.1.toNat) (fun s hs=>?_) ⟨a0,by show x26.1≤3;omega,by show ((0:Nat):Int)+x26.1≤3;omega,h6.mono (by show _≤n+18+8* (3 - x26.1);omega)⟩
  obtain ⟨k,a,b,e,out⟩:=s
  obtain ⟨k0,k1,k2,k3⟩:=hs
  simp only at k0 k1 k2 k3
  unfold qg
  simp only
  refine Ev.ite (fun hk=>?_) (fun hk=>?_)
  ·refine (X9 hc k3 (by omega) _ _).bind fun x38 h7=>?_
   refine (Ev.apd (by simp;omega)).bind fun x40 h8=>?_
   subst h8
   rw [eG (n:=k - 1) (by omega) (by omega)]
   exact Ev.ret ⟨⟨by show 0≤k - 1;omega,by show k - 1≤3;omega,by simp;omega,h7.mono (by show _≤n+18+8* (3 - (k - 1));omega)⟩,by show (k - 1).toNat<k.toNat;omega⟩
  ·exact Ev.ret ⟨by show out.length≤3;omega,k3.mono (by omega)⟩
 ·obtain ⟨a,b,e,out⟩:=o
  exact Ev.ret ⟨h7,h8.mono (by omega)⟩
theorem ZF {n:Int} {s:aj} (h:Sr c n s) (hn:n≤800000000):Ev (qW s) (fun r=>Sr c (n+20) r.2):=by
 unfold qW jJ
 refine (UA hc h (by omega)).bind fun x5 h1=>?_
 refine (jF hc h1 (by omega) _).bind fun x7 ⟨_,_,h2⟩=>?_
 refine Ev.ite (fun _=>?_) (fun _=>Ev.ite (fun _=>?_) (fun _=>Ev.ite (fun _=>?_) (fun _=>?_)))
 ·exact (Lc hc h2 (by omega) _ (by simp)).bind fun x12 h3=>Ev.ret (h3.mono (by omega))
 ·exact (rU hc h2 (by omega) _ (by simp)).bind fun x12 ⟨_,h3⟩=>Ev.ret (h3.mono (by omega))
 ·exact (rU hc h2 (by omega) _ (by simp)).bind fun x12 ⟨_,h3⟩=>Ev.ret (h3.mono (by omega))
 ·exact Ev.ret (h2.mono (by omega))
theorem UC {n:Int} {s:aj} (h:Sr c n s) (hn:n≤700000000):Ev (mP s) (fun r=>r.1.aK.length≤100∧Sr c (n+200) r.2):=by
 unfold mP dD
 refine (Lc hc h (by omega) _ (by simp)).bind fun x8 h1=>?_
 refine (UB hc h1 (by omega) _).bind fun x9 ⟨hd,h2⟩=>?_
 refine (jF hc h2 (by omega) _).bind fun x11 ⟨_,_,h3⟩=>?_
 refine Ev.ite (fun _=>?_) (fun _=>Ev.ite (fun _=>?_) (fun _=>Ev.ite (fun _=>?_) (fun _=>Ev.ite (fun _=>?_) (fun _=>Ev.ite (fun _=>?_) (fun _=>Ev.ite (fun _=>?_) (fun _=>?_))))))
 ·exact (rU hc h3 (by omega) _ (by simp)).bind fun x12 ⟨_,h4⟩=>Ev.ret ⟨by show x9.1.aK.length≤100;omega,h4.mono (by omega)⟩
 ·refine (rU hc h3 (by omega) _ (by simp)).bind fun x27 ⟨_,h4⟩=>?_
  refine (Ev.apd (by simp;omega)).bind fun x30 h5=>?_
  subst h5
  exact Ev.ret ⟨by simp;omega,h4.mono (by omega)⟩
 ·refine (jF hc h3 (by omega) _).bind fun x35 ⟨b0,b1,h4⟩=>?_
  have b1:=b1 (by omega)
  refine Ev.bind (P:=fun o=>o.length≤10) ?_ fun o h5=>Ev.ret ⟨by show o.length≤100;omega,h4.mono (by omega)⟩
  refine Ev.loop (fun l=>l.length≤10) (fun l=>20 - l.length) (fun l hl=>?_) (by omega)
  unfold qh
  rw [eG (n:=5+x35.1) (by omega) (by omega)]
  refine Ev.ite (fun hk=>?_) (fun hk=>Ev.ret hl)
  refine (Ev.apd (by simp;omega)).bind fun x46 h5=>?_
  subst h5
  exact Ev.ret ⟨by simp;omega,by simp;omega⟩
 ·exact (rU hc h3 (by omega) _ (by simp)).bind fun x12 ⟨_,h4⟩=>Ev.ret ⟨by show x9.1.aK.length≤100;omega,h4.mono (by omega)⟩
 ·exact (ZF hc h3 (by omega)).bind fun x12 h4=>Ev.ret ⟨by show x9.1.aK.length≤100;omega,h4.mono (by omega)⟩
 ·exact Ev.ret ⟨by simp,h3.mono (by omega)⟩
 ·exact Ev.ret ⟨by show x9.1.aK.length≤100;omega,h3.mono (by omega)⟩
def LQ (L:List ak):Prop:=L.length≤100∧∀l∈L,l.aK.length≤100
omit hc in
theorem LQ.snoc {L:List ak} {l:ak} (h:∀l∈L,l.aK.length≤100) (h2:l.aK.length≤100):∀x∈L++[l],x.aK.length≤100:=fun x hx=>by
 rcases List.mem_append.1 hx with hx | hx
 ·exact h x hx
 ·rw [List.mem_singleton.1 hx];exact h2
theorem Wq {n:Int} {s:aj} (h:Sr c n s) (hn:n≤600000000):Ev (qV s) (fun r=>(r.1.length≤4∧∀l∈r.1,l.aK.length≤100)∧Sr c (n+1000) r.2):=by
 unfold qV
 refine (jF hc h (by omega) _).bind fun x9 ⟨a0,a1,h1⟩=>?_
 have a1:=a1 (by omega)
 refine Ev.bind (P:=fun o=>(o.2.2.2.length≤4∧∀l∈o.2.2.2,l.aK.length≤100)∧Sr c (n+1000) ⟨o.1,o.2.1,o.2.2.1⟩) ?_ fun o h8=>?_
 ·refine Ev.loop (fun s=>0≤s.1∧s.1≤4∧(s.2.2.2.2.length:Int)≤s.1∧(∀l∈s.2.2.2.2,l.aK.length≤100)∧Sr c (n+2+100*s.1) ⟨s.2.1,s.2.2.1,s.2.2.2.1⟩) (fun s=>(4 - s.1).toNat) (fun s hs=>?_) ⟨by show (0:Int)≤0;omega,by show (0:Int)≤4;omega,by simp,by simp,h1.mono (by show _≤n+2+100*0;omega)⟩
  obtain ⟨k,a,b,e,out⟩:=s
  obtain ⟨k0,k1,k2,k3,k4⟩:=hs
  simp only at k0 k1 k2 k3 k4
  unfold uO
  simp only
  refine Ev.ite (fun hk=>?_) (fun hk=>?_)
  ·refine (Ev.rd (by omega) (by simp;omega)).bind fun x20 _=>?_
   refine (UB hc k4 (by omega) _).bind fun x22 ⟨hd,h7⟩=>?_
   refine (Ev.apd (by simp;omega)).bind fun x24 h8=>?_
   subst h8
   rw [eG (n:=k+1) (by omega) (by omega)]
   exact Ev.ret ⟨⟨by show 0≤k+1;omega,by show k+1≤4;omega,by simp;omega,LQ.snoc k3 (by omega),h7.mono (by show _≤n+2+100* (k+1);omega)⟩,by show (4 - (k+1)).toNat< (4 - k).toNat;omega⟩
  ·exact Ev.ret ⟨⟨by show out.length≤4;omega,k3⟩,k4.mono (by omega)⟩
 ·obtain ⟨a,b,e,out⟩:=o
  exact Ev.ret h8
theorem Ws {n:Int} {s:aj} (h:Sr c n s) (hn:n≤500000000):Ev (qX s) (fun r=>LQ r.1∧Sr c (n+2000) r.2):=by
 unfold qX jP
 refine (Wq hc h (by omega)).bind fun x7 ⟨⟨l1,l2⟩,h1⟩=>?_
 refine (jF hc h1 (by omega) _).bind fun x9 ⟨_,_,h2⟩=>?_
 refine Ev.ite (fun _=>?_) (fun _=>Ev.ite (fun _=>?_) (fun _=>?_))
 ·refine (UC hc h2 (by omega)).bind fun x14 ⟨hd,h3⟩=>?_
  refine (Ev.apd (by simp;omega)).bind fun x16 h8=>?_
  subst h8
  exact Ev.ret ⟨⟨by simp;omega,LQ.snoc l2 hd⟩,h3.mono (by omega)⟩
 ·refine (jF hc h2 (by omega) _).bind fun x20 ⟨b0,b1,h3⟩=>?_
  have b1:=b1 (by omega)
  refine Ev.bind (P:=fun o=>LQ o) ?_ fun o h5=>Ev.ret ⟨h5,h3.mono (by omega)⟩
  refine Ev.loop (fun s=>0≤s.1∧s.1≤17∧(s.2.length:Int)≤s.1∧(∀l∈s.2,l.aK.length≤100)) (fun s=>(17 - s.1).toNat) (fun s hs=>?_) ⟨by show (0:Int)≤0;omega,by show (0:Int)≤17;omega,by simp,by simp⟩
  obtain ⟨k,out⟩:=s
  obtain ⟨k0,k1,k2,k3⟩:=hs
  simp only at k0 k1 k2 k3
  unfold uP
  simp only
  rw [eG (n:=15+x20.1) (by omega) (by omega)]
  refine Ev.ite (fun hk=>?_) (fun hk=>Ev.ret ⟨by omega,k3⟩)
  refine (Ev.cat (by show 1+1≤9223372036854775807;omega)).bind fun x34 _=>?_
  refine (Ev.apd (by simp;omega)).bind fun x40 h8=>?_
  subst h8
  rw [eG (n:=k+1) (by omega) (by omega)]
  exact Ev.ret ⟨⟨by show 0≤k+1;omega,by show k+1≤17;omega,by simp;omega,LQ.snoc k3 (by simp)⟩,by show (17 - (k+1)).toNat< (17 - k).toNat;omega⟩
 ·exact Ev.ret ⟨⟨by show x7.1.length≤100;omega,l2⟩,h2.mono (by omega)⟩
omit hc in
theorem LQ.set {L:List ak} (h:LQ L) {i:Nat} {l:ak} (hl:l.aK.length≤100):LQ (L.set i l):=
 ⟨by rw [List.length_set];exact h.1,fun x hx=>by
   rcases List.mem_or_eq_of_mem_set hx with hx | hx
   ·exact h.2 x hx
   ·rw [hx];exact hl⟩
theorem UD {n:Int} {a:List Int} {b e:Int} (h:Sr c n ⟨a,b,e⟩) (hn:n≤500000000) {L:List ak} (hL:LQ L):Ev (jQ a b e L) (fun r=>LQ r.1∧Sr c (n+100) r.2):=by
 unfold jQ lH
 refine (Dx hc h (by omega) _).bind fun x46 h1=>?_
 refine Ev.ite (fun hk=>?_) (fun hk=>Ev.ret ⟨hL,h1.mono (by omega)⟩)
 obtain ⟨_,hk⟩:=hk
 refine (Ev.rd (by omega) (by omega)).bind fun x53 ⟨m1,_⟩=>?_
 have g1:=hL.set (i:=(0:Int).toNat) (l:=⟨x53.Id,⟨#[102,49]⟩,x53.Number,x53.ai,x53.Width,x53.Length,x53.aK⟩) (hL.2 x53 m1)
 refine (Ev.rd (by omega) (by simp only [List.length_set];omega)).bind fun x56 ⟨m2,_⟩=>?_
 have g2:=g1.set (i:=(0:Int).toNat) (l:=⟨x56.Id,x56.gV,0,x56.ai,x56.Width,x56.Length,x56.aK⟩) (g1.2 x56 m2)
 refine (Ev.rd (by omega) (by simp only [List.length_set];omega)).bind fun x59 ⟨m3,_⟩=>?_
 have g3:=g2.set (i:=(1:Int).toNat) (l:=⟨x59.Id,⟨#[102,49]⟩,x59.Number,x59.ai,x59.Width,x59.Length,x59.aK⟩) (g2.2 x59 m3)
 refine (rU hc h1 (by omega) _ (by simp)).bind fun x64 ⟨_,h2⟩=>?_
 refine (Ev.rd (by omega) (by simp only [List.length_set];omega)).bind fun x65 ⟨m4,_⟩=>?_
 exact Ev.ret ⟨g3.set (g3.2 x65 m4),h2.mono (by omega)⟩
theorem UE {n:Int} {s:aj} (h:Sr c n s) (hn:n≤400000000):Ev (o6 s) (fun r=>LQ r.1∧Sr c (n+10000) r.2):=by
 unfold o6
 refine (Ws hc h (by omega)).bind fun x9 ⟨hL,h1⟩=>?_
 refine (Dx hc h1 (by omega) _).bind fun x11 h2=>?_
 refine Ev.ite (fun _=>?_) (fun _=>?_)
 ·refine (jF hc h2 (by omega) _).bind fun x15 ⟨_,_,h3⟩=>?_
  refine Ev.bind (P:=fun o=>LQ o.2.2.2∧Sr c (n+2000+4+200*7) ⟨o.1,o.2.1,o.2.2.1⟩) ?_ fun o h8=>?_
  ·refine Ev.loop (fun s=>0≤s.2.1∧s.2.1≤7∧(s.2.2.2.2.2.length:Int)≤s.2.1∧(∀l∈s.2.2.2.2.2,l.aK.length≤100)∧Sr c (n+2000+4+200*s.2.1) ⟨s.2.2.1,s.2.2.2.1,s.2.2.2.2.1⟩) (fun s=>(7 - s.2.1).toNat) (fun s hs=>?_) ⟨by show (0:Int)≤0;omega,by show (0:Int)≤7;omega,by simp,by simp,h3.mono (by show _≤n+2000+4+200*0;omega)⟩
   obtain ⟨num,k,a,b,e,out⟩:=s
   obtain ⟨k0,k1,k2,k3,k4⟩:=hs
   simp only at k0 k1 k2 k3 k4
   unfold uQ lI mQ
   simp only
   refine Ev.ite (fun hk=>?_) (fun hk=>Ev.ret ⟨⟨by show out.length≤100;omega,k3⟩,k4.mono (by omega)⟩)
   have hk7:k<7:=by simpa using hk
   rw [eG (n:=k+1) (by omega) (by omega)]
   refine (Dx hc k4 (by omega) _).bind fun x23 h4=>?_
   refine Ev.ite (fun _=>?_) (fun _=>?_)
   ·exact Ev.ret ⟨⟨by show 0≤k+1;omega,by show k+1≤7;omega,by show (out.length:Int)≤k+1;omega,k3,h4.mono (by show _≤n+2000+4+200* (k+1);omega)⟩,by show (7 - (k+1)).toNat< (7 - k).toNat;omega⟩
   ·refine (Ev.rd (by omega) (by simp;omega)).bind fun x27 _=>?_
    refine (UB hc h4 (by omega) _).bind fun x29 ⟨hd,h5⟩=>?_
    refine (Dx hc h5 (by omega) _).bind fun x31 h6=>?_
    refine Ev.ite (fun _=>?_) (fun _=>?_)
    all_goals
     refine (rU hc h6 (by omega) _ (by simp)).bind fun x39 ⟨_,h7⟩=>?_
     refine (Ev.apd (by simp;omega)).bind fun x44 h8=>?_
     subst h8
     exact Ev.ret ⟨⟨by show 0≤k+1;omega,by show k+1≤7;omega,by simp;omega,LQ.snoc k3 (by show x29.1.aK.length≤100;omega),h7.mono (by show _≤n+2000+4+200* (k+1);omega)⟩,by show (7 - (k+1)).toNat< (7 - k).toNat;omega⟩
  ·obtain ⟨a,b,e,out⟩:=o
   exact (UD hc h8.2 (by omega) h8.1).mono fun r ⟨q1,q2⟩=>⟨q1,q2.mono (by omega)⟩
 ·exact (UD hc h2 (by omega) hL).mono fun r ⟨q1,q2⟩=>⟨q1,q2.mono (by omega)⟩
theorem Ya {n:Int} {s:aj} (h:Sr c n s) (hn:n≤500000000):Ev (jW s) (fun r=>True):=by
 unfold jW
 refine (Dx hc h (by omega) _).bind fun x4 h1=>?_
 refine Ev.ite (fun _=>?_) (fun _=>?_)
 ·exact (rU hc h1 (by omega) _ (by simp)).bind fun x12 _=>Ev.ret trivial
 ·exact (jF hc h1 (by omega) _).bind fun x12 _=>Ev.ret trivial
theorem Yb:Ev (jX c) (fun r=>LQ r.1):=by
 unfold jX
 refine (Qu c).bind fun x9 h=>?_
 refine (UE hc h (by omega)).bind fun x11 ⟨hL,h1⟩=>?_
 refine (Dx hc h1 (by omega) _).bind fun x13 h2=>?_
 exact (Ya hc h2 (by omega)).bind fun x17 _=>Ev.ret hL
theorem Yc:Ev (jh c) (fun r=>LQ r.1):=by
 unfold jh
 refine (Qu c).bind fun x9 h=>?_
 refine (UE hc h (by omega)).bind fun x11 ⟨hL,h1⟩=>?_
 refine (jF hc h1 (by omega) _).bind fun x16 ⟨_,_,h2⟩=>?_
 exact (Dx hc h2 (by omega) _).bind fun x21 _=>Ev.ret hL
end
theorem Rq (c m:List Int) (hc:∀x∈c,0≤x∧x≤255) (hm:∀x∈m,0≤x∧x≤255):vw c m=some true:=by
 unfold vw qU
 rw [Option.bind_some]
 by_cases c1:(c.length:Int) >1048576
 ·rw [decide_eq_true c1];rfl
 rw [decide_eq_false c1,if_neg (by decide),Option.bind_some,Option.bind_some]
 by_cases c2:(m.length:Int) >1048576
 ·rw [decide_eq_true c2];rfl
 rw [decide_eq_false c2,if_neg (by decide)]
 obtain ⟨x33,e1,hL⟩:=Yb hc
 rw [e1,Option.bind_some]
 have rest:((jh m).bind fun dH=>
  (lS dH.1 dH.2.1 dH.2.2).bind fun jy=>
  if jy.2.2≠0 then
  (some ((jy.1==0)&&(jy.2.1==0)))
  else (if (jy.1<0∨(jy.1≥(dH.1.length:Int)∨(jy.1=dH.2.1∨(dH.2.1<0∨dH.2.1≥(dH.1.length:Int))))) then
  (some false)
  else ((rd dH.1 dH.2.1).bind fun x157=>
  (rd dH.1 jy.1).bind fun Vj=>
  (kK x157 Vj dH.2.2).bind fun F6=>
  some ((F6.2==0)&&(F6.1==jy.2.1)))))=some true:=by
  obtain ⟨x,e,h1,h2⟩:=Yc hm
  rw [e,Option.bind_some]
  obtain ⟨i,v,k,q1,q2,q3⟩:=ZC x.1 x.2.1 x.2.2 (by omega) (fun l hl=>by have:=h2 l hl;omega)
  rw [q1,Option.bind_some]
  simp only
  by_cases ck:k=0
  ·obtain ⟨⟨i0,i1⟩,i2,⟨k0,k1⟩,a,b,r1,r2,r3⟩:=q3 ck
   rw [if_neg (fun h=>h ck),if_neg (by omega),r1,Option.bind_some,r2,Option.bind_some,r3,Option.bind_some]
   simp
  ·obtain ⟨rfl,rfl⟩:=q2 ck
   rw [if_pos ck]
   rfl
 obtain ⟨b,hb,hv⟩:=Nq x33.1 (by have:=hL.1;omega) (fun l hl=>by have:=hL.2 l hl;omega)
 cases b with
 | false=>
  rw [Uu hb,OW hb]
  rfl
 | true=>
  obtain ⟨hn,hf⟩:=hv rfl
  have hLf:∀x∈x33.1,Lf x:=fun x hx=>(hf x hx).1
  obtain ⟨ps,v,k,q1,q2,q3⟩:=Wi (bk:=x33.2.1) hLf hb hn x33.2.2
  obtain ⟨g,g1,g2,g3⟩:=Ro (bk:=x33.2.1) hLf hb hn
  rw [q1,Option.bind_some,g1,Option.bind_some]
  simp only
  by_cases ck:k=0
  ·obtain ⟨p1,p2,p3,p4⟩:=q3 ck
   rw [if_neg (fun h=>h ck),WV hLf hb p1 (by omega),Option.bind_some,WV hLf hb g2 (by omega),Option.bind_some]
   simp only
   have hdv:dv .i64 (x33.1.length:Int) 2=some ((x33.1.length / 2:Nat):Int):=by
    unfold dv
    rw [if_neg (by omega),show IntKind.wrap .i64 ((x33.1.length:Int).tdiv 2)=w64 ((x33.1.length:Int).tdiv 2) from rfl,Int.tdiv_eq_ediv_of_nonneg (by omega),eG (by omega) (by omega)]
    simp
   rw [hdv]
   have hle:=p4 g g2 g3
   rw [if_neg (by decide),if_neg (by decide),if_neg (by omega),Option.bind_some,if_neg (by omega),if_neg (by omega),if_neg (by decide),decide_eq_false (by omega),Option.bind_some,if_neg (by decide)]
   exact rest
  ·obtain ⟨rfl,rfl⟩:=q2 ck
   rw [if_pos ck]
   rfl
end Go.Pw
