/- The plain law of FnRepairs. Conditions: none. -/
import Derived.Test.YtdibfdcmbjaejaaTrpT
import Derived.Test.YtdibfdcmbjaejaaSimPe
import Derived.Test.YtdibfdcmbjaejaaSimPn
import Derived.Test.YtdibfdcmbjaejaaSimRh
namespace Go.Pw
open Go.Sim (min2 max2)
set_option linter.unusedVariables false
set_option linter.unusedSimpArgs false
theorem rG (n a b:Int):dO n a b=some (decide (a≤n∧n≤b)):=by
 unfold dO
 rw [Bool.decide_and]
theorem XJ (n a b:Int):iP n a b=some (decide (a≤n∧n≤b)):=by
 unfold iP
 rw [Bool.decide_and]
theorem YJ (s:ByteArray) (i:Int):fK s i=ni s i:=by
 unfold fK ni
 by_cases c:i< (s.size:Int)
 ·rw [if_pos c,if_pos c]
  cases bt s i with
  | none=>rfl
  | some x=>
   have d1:decide (x≥97)=!decide (x<97):=by rw [←decide_not];exact decide_eq_decide.2 (by omega)
   have d2:decide (x≤122)=!decide (x>122):=by rw [←decide_not];exact decide_eq_decide.2 (by omega)
   have d3:decide (x≥48)=!decide (x<48):=by rw [←decide_not];exact decide_eq_decide.2 (by omega)
   have d4:decide (x≤57)=!decide (x>57):=by rw [←decide_not];exact decide_eq_decide.2 (by omega)
   simp only [Option.bind_some,qG,wQ,d1,d2,d3,d4]
   by_cases c1:x<97<;>by_cases c2:x>122<;>by_cases c3:x<48<;>by_cases c4:x>57<;>simp [c1,c2,c3,c4]
 ·rw [if_neg c,if_neg c]
theorem MZ (s:ByteArray):∃v,pW s=some v∧iF s=some v:=by
 unfold pW iF
 by_cases c0:s.size=0
 ·have hs:=YH c0
  refine ⟨false,?_,?_⟩
  ·rw [if_pos hs];rfl
  ·rw [if_pos (by omega)];rfl
 ·have hs:¬s=⟨#[]⟩:=fun h=>c0 (by rw [h];rfl)
  rw [if_neg hs,if_neg (show ¬((s.size:Int) <1) by omega)]
  by_cases c1:(s.size:Int) >10
  ·rw [if_pos c1,if_pos c1]
   exact ⟨false,rfl,rfl⟩
  ·rw [if_neg c1,if_neg c1]
   obtain ⟨b,hb,hb1,hb2⟩:=XH (s:=s) (i:=0) (by omega)
   have hb':bt s 0=some b:=hb
   rw [hb']
   have hloop:∃o,aI (ni s) 0=some o:=by
    refine aax s.size (by omega) (fun i hi=>?_) ⟨.inl (),?_⟩
    ·obtain ⟨x,hx,_⟩:=XH (s:=s) hi
     unfold ni
     rw [if_pos (by omega),hx]
     simp only [Option.bind_some,qG,wQ]
     split
     ·simp
     ·simp only [Option.bind_some]
      split
      ·exact .inr ⟨_,rfl⟩
      ·exact .inl rfl
    ·unfold ni
     rw [if_neg (by omega)]
   obtain ⟨o,ho⟩:=hloop
   have ho2:aI (fK s) 0=some o:=by rw [Uy (YJ s)];exact ho
   rw [ho,ho2]
   have e:(if b<97 then some true else some (decide (b>122)))=some (!(decide (b≥97)&&decide (b≤122))):=by
    have d1:decide (b≥97)=!decide (b<97):=by rw [←decide_not];exact decide_eq_decide.2 (by omega)
    have d2:decide (b≤122)=!decide (b>122):=by rw [←decide_not];exact decide_eq_decide.2 (by omega)
    rw [d1,d2]
    by_cases c2:b<97<;>by_cases c3:b>122<;>simp [c2,c3]
   simp only [Option.bind_some,qG]
   rw [e]
   simp only [Option.bind_some]
   split
   ·exact ⟨false,rfl,rfl⟩
   ·cases o with
    | inl u=>exact ⟨true,rfl,rfl⟩
    | inr r=>exact ⟨r,rfl,rfl⟩
theorem nm (s:ByteArray):iF s=pW s:=by
 obtain ⟨v,h1,h2⟩:=MZ s
 rw [h1,h2]
theorem aif {l:List Int} {x:Int} (h:l.length≤1000000):apd 8 l [x]=some (l++[x]):=by
 unfold apd
 rw [if_pos (by simp;omega)]
theorem aih {l:List Int} (h:l.length≤1000000):apd 8 ([]:List Int) l=some l:=by
 unfold apd
 rw [if_pos (by simp;omega)]
 rfl
theorem OZ {α:Type} {f:Int→Option (Int ⊕ (Unit ⊕ Bool))} (l:List α) (V:α→Bool) (hl:l.length≤1048576)
 (h1:∀(i:Nat) (hi:i<l.length),f (i:Int)=if V l[i]=true then some (.inl (w64 ((i:Int)+1))) else some (.inr (.inr false))) (h2:f (l.length:Int)=some (.inr (.inl ()))):
 aI f 0=some (if l.all V=true then .inl () else .inr false):=by
 rcases KC (ρ:=Bool) l (fun x=>!V x) (fun _=>false) (by omega) (fun i hi=>by rw [h1 i hi];cases V l[i]<;>rfl) h2 with ⟨a,b⟩ | ⟨i,hi,a,_,b⟩
 ·rw [b,if_pos (List.all_eq_true.2 fun x hx=>by simpa using a x hx)]
 ·have:¬l.all V=true:=fun h=>by
   have e:=List.all_eq_true.1 h _ (List.getElem_mem hi)
   rw [e] at a
   cases a
  rw [b,if_neg this]
theorem YK {α:Type} {f:Int→Option (Int ⊕ (Unit ⊕ Int))} (l:List α) (V:α→Bool) (hl:l.length≤1048576)
 (h1:∀(i:Nat) (hi:i<l.length),f (i:Int)=if (!V l[i])=true then some (.inr (.inr (i:Int))) else some (.inl (w64 ((i:Int)+1)))) (h2:f (l.length:Int)=some (.inr (.inl ()))):
 (l.all V=true∧aI f 0=some (.inl ()))∨(l.all V=false∧∃k:Nat,aI f 0=some (.inr (k:Int))):=by
 rcases KC l (fun x=>!V x) (fun k=>(k:Int)) (by omega) h1 h2 with ⟨a,b⟩ | ⟨i,hi,a,_,b⟩
 ·exact .inl ⟨List.all_eq_true.2 fun x hx=>by simpa using a x hx,b⟩
 ·refine .inr ⟨?_,i,b⟩
  rw [List.all_eq_false]
  exact ⟨_,List.getElem_mem hi,by simpa using a⟩
def nms:List ByteArray:=[⟨#[97,115,104]⟩,⟨#[98,101,101,99,104]⟩,⟨#[98,105,114,99,104]⟩,⟨#[99,104,101,114,114,121]⟩,⟨#[101,98,111,110,121]⟩,⟨#[104,111,108,108,121]⟩,⟨#[109,97,112,108,101]⟩,⟨#[111,97,107]⟩,⟨#[114,111,115,101,119,111,111,100]⟩,⟨#[119,97,108,110,117,116]⟩]
theorem aT {a b:Array UInt8} (h:a.toList≠b.toList):¬(⟨a⟩:ByteArray)=⟨b⟩:=fun e=>h (by injection e with e;rw [e])
theorem acH (s:ByteArray):(vY s=some (-1)∧fJ s=some (0,false))∨
 ∃(k:Nat) (b:Int) (tb:List (List Int)) (row:List Int),vY s=some (k:Int)∧nX=some tb∧rd tb (k:Int)=some row∧rd row 0=some b∧0≤b∧b≤100∧fJ s=some (b,true):=by
 have hN:uA=some nms:=rfl
 unfold vY
 rw [hN,Option.bind_some]
 rcases KC (f:=tX s nms) nms (fun x=>decide (x=s)) (fun k=>(k:Int)) (by decide) (fun i hi=>by
  unfold tX
  rw [if_pos (by omega),iK hi,Option.bind_some]
  by_cases c:nms[i]=s
  ·rw [if_pos c,if_pos (decide_eq_true c)]
  ·rw [if_neg c,if_neg (by simpa using c)]) (by unfold tX;rw [if_neg (by omega)]) with ⟨a,b⟩ | ⟨k,hk,a,_,b⟩
 ·left
  rw [b]
  refine ⟨rfl,?_⟩
  have hn:∀x∈nms,¬s=x:=fun x hx e=>by
   have:=a x hx
   rw [e] at this
   simp at this
  simp only [nms,List.mem_cons,forall_eq_or_imp,List.not_mem_nil,false_implies,implies_true,and_true] at hn
  obtain ⟨h1,h2,h3,h4,h5,h6,h7,h8,h9,h10⟩:=hn
  unfold fJ oz
  rw [if_neg h1,if_neg h2,if_neg h3,if_neg h4,if_neg h5,if_neg h6,if_neg h7,if_neg h8,if_neg h9,if_neg h10]
  rfl
 ·right
  rw [b]
  have hs:nms[k]=s:=by simpa using a
  have hk':k<10:=hk
  unfold fJ oz
  have hc:k=0∨k=1∨k=2∨k=3∨k=4∨k=5∨k=6∨k=7∨k=8∨k=9:=by omega
  rcases hc with rfl | rfl | rfl | rfl | rfl | rfl | rfl | rfl | rfl | rfl
  ·rw [←hs];exact ⟨0,20,_,_,rfl,rfl,rfl,rfl,by decide,by decide,by rw [show nms[0]=(⟨#[97,115,104]⟩:ByteArray) from rfl,if_pos rfl];rfl⟩
  ·rw [←hs];exact ⟨1,35,_,_,rfl,rfl,rfl,rfl,by decide,by decide,by rw [show nms[1]=(⟨#[98,101,101,99,104]⟩:ByteArray) from rfl,if_neg (aT (by decide)),if_pos rfl];rfl⟩
  ·rw [←hs];exact ⟨2,15,_,_,rfl,rfl,rfl,rfl,by decide,by decide,by rw [show nms[2]=(⟨#[98,105,114,99,104]⟩:ByteArray) from rfl,if_neg (aT (by decide)),if_neg (aT (by decide)),if_pos rfl];rfl⟩
  ·rw [←hs];exact ⟨3,50,_,_,rfl,rfl,rfl,rfl,by decide,by decide,by rw [show nms[3]=(⟨#[99,104,101,114,114,121]⟩:ByteArray) from rfl,if_neg (aT (by decide)),if_neg (aT (by decide)),if_neg (aT (by decide)),if_pos rfl];rfl⟩
  ·rw [←hs];exact ⟨4,95,_,_,rfl,rfl,rfl,rfl,by decide,by decide,by rw [show nms[4]=(⟨#[101,98,111,110,121]⟩:ByteArray) from rfl,if_neg (aT (by decide)),if_neg (aT (by decide)),if_neg (aT (by decide)),if_neg (aT (by decide)),if_pos rfl];rfl⟩
  ·rw [←hs];exact ⟨5,5,_,_,rfl,rfl,rfl,rfl,by decide,by decide,by rw [show nms[5]=(⟨#[104,111,108,108,121]⟩:ByteArray) from rfl,if_neg (aT (by decide)),if_neg (aT (by decide)),if_neg (aT (by decide)),if_neg (aT (by decide)),if_neg (aT (by decide)),if_pos rfl];rfl⟩
  ·rw [←hs];exact ⟨6,10,_,_,rfl,rfl,rfl,rfl,by decide,by decide,by rw [show nms[6]=(⟨#[109,97,112,108,101]⟩:ByteArray) from rfl,if_neg (aT (by decide)),if_neg (aT (by decide)),if_neg (aT (by decide)),if_neg (aT (by decide)),if_neg (aT (by decide)),if_neg (aT (by decide)),if_pos rfl];rfl⟩
  ·rw [←hs];exact ⟨7,40,_,_,rfl,rfl,rfl,rfl,by decide,by decide,by rw [show nms[7]=(⟨#[111,97,107]⟩:ByteArray) from rfl,if_neg (aT (by decide)),if_neg (aT (by decide)),if_neg (aT (by decide)),if_neg (aT (by decide)),if_neg (aT (by decide)),if_neg (aT (by decide)),if_neg (aT (by decide)),if_pos rfl];rfl⟩
  ·rw [←hs];exact ⟨8,80,_,_,rfl,rfl,rfl,rfl,by decide,by decide,by rw [show nms[8]=(⟨#[114,111,115,101,119,111,111,100]⟩:ByteArray) from rfl,if_neg (aT (by decide)),if_neg (aT (by decide)),if_neg (aT (by decide)),if_neg (aT (by decide)),if_neg (aT (by decide)),if_neg (aT (by decide)),if_neg (aT (by decide)),if_neg (aT (by decide)),if_pos rfl];rfl⟩
  ·rw [←hs];exact ⟨9,70,_,_,rfl,rfl,rfl,rfl,by decide,by decide,by rw [show nms[9]=(⟨#[119,97,108,110,117,116]⟩:ByteArray) from rfl,if_neg (aT (by decide)),if_neg (aT (by decide)),if_neg (aT (by decide)),if_neg (aT (by decide)),if_neg (aT (by decide)),if_neg (aT (by decide)),if_neg (aT (by decide)),if_neg (aT (by decide)),if_neg (aT (by decide)),if_pos rfl];rfl⟩
theorem aaB (x:dW):∃v,qI x=some v∧jo x=some v:=by
 unfold qI jo
 rcases acH x.gm with ⟨h1,h2⟩ | ⟨k,b,tb,row,h1,h2,h3,h4,h5,h6,h7⟩
 ·rw [h1,h2];exact ⟨false,rfl,rfl⟩
 ·rw [h1,h7,h2]
  simp only [Option.bind_some,h3,h4,XJ,rG,if_true,zu]
  rw [if_neg (show ¬(k:Int) <0 by omega),aV (n:=b - 15) (by omega) (by omega),aV (n:=b+15) (by omega) (by omega)]
  by_cases c:0≤x.eF∧x.eF≤100
  ·rw [aV (n:=x.eF - b) (by omega) (by omega),decide_eq_true c]
   have e:decide (b - 15≤x.eF∧x.eF≤b+15)=decide (-15≤x.eF - b∧x.eF - b≤15):=decide_eq_decide.2 ⟨fun h=>by omega,fun h=>by omega⟩
   rw [e]
   cases decide (-15≤x.eF - b∧x.eF - b≤15)<;>exact ⟨_,rfl,rfl⟩
  ·rw [decide_eq_false c]
   exact ⟨false,rfl,rfl⟩
noncomputable def O0 (x:dW):Bool:=(qI x).getD false
theorem UA (x:dW):qI x=some (O0 x):=by
 obtain ⟨v,h,_⟩:=aaB x
 unfold O0
 rw [h];rfl
theorem Qy (x:dW):jo x=some (O0 x):=by
 obtain ⟨v,h,h2⟩:=aaB x
 unfold O0
 rw [h,h2];rfl
def F5 (a b:Int):Int:=min2 (max2 (a - b) (b - a)) (180 - max2 (a - b) (b - a))
def ctP (a b:dW):Int:=max2 (a.eF - b.eF) (b.eF - a.eF)+(F5 a.bC b.bC).tdiv 6
def okV (a:dW):Prop:=0≤a.eF∧a.eF≤100∧0≤a.bC∧a.bC≤179
theorem SQ {a:dW} (h:O0 a=true):okV a:=by
 have e:=Qy a
 rw [h] at e
 unfold jo at e
 simp only [rG] at e
 cases hs:fJ a.gm with
 | none=>rw [hs] at e;cases e
 | some x=>
  rw [hs] at e
  simp only [Option.bind_some] at e
  cases h2:x.2 with
  | false=>rw [h2] at e;cases e
  | true=>
   rw [h2] at e
   by_cases c1:0≤a.eF∧a.eF≤100
   ·by_cases c3:0≤a.bC∧a.bC≤179
    ·exact ⟨c1.1,c1.2,c3.1,c3.2⟩
    ·rw [decide_eq_true c1,decide_eq_false c3] at e
     simp at e
   ·rw [decide_eq_false c1] at e
    simp at e
theorem aaC (a b:Int):vw a b=some (max2 a b):=by
 unfold vw
 rcases qL a b with h | h<;>rw [h.2]
 ·rw [if_neg (by omega)]
 ·by_cases c:a>b
  ·rw [if_pos c]
  ·rw [if_neg c];congr 1;omega
theorem XK (a b:Int):rM a b=some (min2 a b):=by
 unfold rM
 rcases qM a b with h | h<;>rw [h.2]
 ·rw [if_neg (by omega)]
 ·by_cases c:a<b
  ·rw [if_pos c]
  ·rw [if_neg c];congr 1;omega
theorem aaD {a b:dW} (ha:okV a) (hb:okV b):0≤F5 a.bC b.bC∧F5 a.bC b.bC≤180∧-200≤max2 (a.bC - b.bC) (b.bC - a.bC)∧max2 (a.bC - b.bC) (b.bC - a.bC)≤200∧0≤max2 (a.eF - b.eF) (b.eF - a.eF)∧max2 (a.eF - b.eF) (b.eF - a.eF)≤100:=by
 obtain ⟨a1,a2,a3,a4⟩:=ha
 obtain ⟨b1,b2,b3,b4⟩:=hb
 unfold F5
 rcases qL (a.bC - b.bC) (b.bC - a.bC) with h | h<;>rcases qL (a.eF - b.eF) (b.eF - a.eF) with h' | h'<;>rw [h.2,h'.2]
 all_goals
  rcases qM (b.bC - a.bC) (180 - (b.bC - a.bC)) with k | k<;>rcases qM (a.bC - b.bC) (180 - (a.bC - b.bC)) with k' | k'<;>first | rw [k.2] | rw [k'.2]
  all_goals omega
theorem agT {a b:dW} (ha:okV a) (hb:okV b):0≤ctP a b∧ctP a b≤200:=by
 obtain ⟨h1,h2,_,_,h3,h4⟩:=aaD ha hb
 unfold ctP
 have e:(F5 a.bC b.bC).tdiv 6=F5 a.bC b.bC / 6:=Int.tdiv_eq_ediv_of_nonneg h1
 rw [e]
 omega
theorem aii {a b:dW} (ha:okV a) (hb:okV b):rD a b=some (ctP a b):=by
 obtain ⟨h1,h2,h5,h6,h3,h4⟩:=aaD ha hb
 have h0:=agT ha hb
 obtain ⟨a1,a2,a3,a4⟩:=ha
 obtain ⟨b1,b2,b3,b4⟩:=hb
 unfold rD zC
 rw [aV (n:=a.eF - b.eF) (by omega) (by omega),aV (n:=b.eF - a.eF) (by omega) (by omega),aV (n:=a.bC - b.bC) (by omega) (by omega),aV (n:=b.bC - a.bC) (by omega) (by omega),aaC,aaC,Option.bind_some,Option.bind_some,
  aV (n:=180 - max2 (a.bC - b.bC) (b.bC - a.bC)) (by omega) (by omega),XK,Option.bind_some,Option.bind_some]
 have e:dv .i64 (F5 a.bC b.bC) 6=some ((F5 a.bC b.bC).tdiv 6):=by
  unfold dv
  rw [if_neg (by decide)]
  congr 1
  have e:(F5 a.bC b.bC).tdiv 6=F5 a.bC b.bC / 6:=Int.tdiv_eq_ediv_of_nonneg h1
  exact aV (by rw [e];omega) (by rw [e];omega)
 show (dv .i64 (F5 a.bC b.bC) 6).bind _=_
 rw [e,Option.bind_some]
 show some (w64 (ctP a b))=_
 rw [aV (by omega) (by omega)]
theorem aij {a b:dW} (ha:okV a) (hb:okV b):wZ a b=some (ctP a b):=by
 obtain ⟨h1,h2,h5,h6,h3,h4⟩:=aaD ha hb
 have h0:=agT ha hb
 obtain ⟨a1,a2,a3,a4⟩:=ha
 obtain ⟨b1,b2,b3,b4⟩:=hb
 unfold wZ xy
 simp only [rG]
 rw [decide_eq_true (show 0≤a.bC∧a.bC≤179 from ⟨a3,a4⟩),decide_eq_true (show 0≤b.bC∧b.bC≤179 from ⟨b3,b4⟩)]
 simp only [Option.bind_some,if_true,Bool.not_true,Bool.false_eq_true,if_false]
 rw [aV (n:=a.eF - b.eF) (by omega) (by omega),aV (n:=b.eF - a.eF) (by omega) (by omega),aV (n:=a.bC - b.bC) (by omega) (by omega),aV (n:=b.bC - a.bC) (by omega) (by omega),
  aV (n:=180 - max2 (a.bC - b.bC) (b.bC - a.bC)) (by omega) (by omega)]
 have e:dv .i64 (F5 a.bC b.bC) 6=some ((F5 a.bC b.bC).tdiv 6):=by
  unfold dv
  rw [if_neg (by decide)]
  congr 1
  have e:(F5 a.bC b.bC).tdiv 6=F5 a.bC b.bC / 6:=Int.tdiv_eq_ediv_of_nonneg h1
  exact aV (by rw [e];omega) (by rw [e];omega)
 show (dv .i64 (F5 a.bC b.bC) 6).bind _=_
 rw [e,Option.bind_some]
 show some (w64 (ctP a b))=_
 rw [aV (by omega) (by omega)]
theorem YL (a b:Int):F5 a b=F5 b a:=by unfold F5;rw [Qw]
theorem aaE (a b:dW):ctP a b=ctP b a:=by unfold ctP;rw [Qw,YL]
theorem aaF {k n:Nat} (hn:0<n):md (k:Int) (n:Int)=some ((k % n:Nat):Int):=by
 unfold md
 rw [if_neg (by omega),Int.tmod_eq_emod_of_nonneg (by omega)]
 rfl
def Sr (c:List Int) (n:Int) (s:aB):Prop:=s.code=c∧0≤s.at_∧s.at_≤n
theorem Sr.mono {c:List Int} {n m:Int} {s:aB} (h:Sr c n s) (hm:n≤m):Sr c m s:=⟨h.1,h.2.1,by have:=h.2.2;omega⟩
theorem aeD (x:Int):0≤zq .u64 x 255∧zq .u64 x 255≤255:=by
 unfold zq
 have h1:(BitVec.ofInt IntKind.u64.bits x &&& BitVec.ofInt IntKind.u64.bits 255).toNat≤255:=by
  rw [BitVec.toNat_and]
  exact Nat.le_trans Nat.and_le_right (by decide)
 generalize (BitVec.ofInt IntKind.u64.bits x &&& BitVec.ofInt IntKind.u64.bits 255).toNat=k at h1
 have e:IntKind.wrap .u64 (k:Int)=(k:Int):=by
  simp only [IntKind.wrap,IntKind.signed,IntKind.bits]
  simp
  omega
 rw [e]
 omega
theorem XL {c:List Int} (hc:∀x∈c,0≤x∧x≤255) {n:Int} (hn:n≤1000000000) {s:aB} (h:Sr c n s):∃v s',ou s=some (v,s')∧0≤v∧v≤255∧Sr c (n+1) s':=by
 obtain ⟨h1,h2,h3⟩:=h
 have e1:w64 (s.at_+1)=s.at_+1:=aV (by omega) (by omega)
 have k4:∀b,0≤b→b≤255→∃v s',kV s b=some (v,s')∧0≤v∧v≤255∧Sr c (n+1) s':=by
  intro b b1 b2
  unfold kV shr
  rw [e1]
  by_cases q:s.at_+1≤(s.code.length:Int)
  ·rw [if_pos q]
   exact ⟨_,_,rfl,b1,b2,h1,by show 0≤s.at_+1;omega,by show s.at_+1≤n+1;omega⟩
  ·rw [if_neg q,if_neg (by decide)]
   simp only [Option.bind_some]
   have a:=aeD (Int.fdiv (IntKind.wrap .u64 ((IntKind.wrap .u64 ((IntKind.wrap .u64 (s.seed*6364136223846793005))+(IntKind.wrap .u64 b)))+1442695040888963407)) (2 ^ min (Int.toNat 40) IntKind.u64.bits))
   refine ⟨_,_,rfl,?_,?_,h1,by show 0≤s.at_+1;omega,by show s.at_+1≤n+1;omega⟩
   ·rw [aV (by omega) (by omega)];exact a.1
   ·rw [aV (by omega) (by omega)];exact a.2
 unfold ou
 by_cases q:s.at_< (s.code.length:Int)
 ·rw [if_pos q]
  obtain ⟨i,hi⟩:∃i:Nat,s.at_=(i:Int):=⟨s.at_.toNat,by omega⟩
  have hlt:i<s.code.length:=by omega
  rw [hi,iK hlt,Option.bind_some]
  have hb:=hc s.code[i] (by rw [←h1];exact List.getElem_mem hlt)
  rw [aV (by omega) (by omega)]
  exact k4 _ hb.1 hb.2
 ·rw [if_neg q]
  exact k4 0 (by omega) (by omega)
theorem qE {c:List Int} (hc:∀x∈c,0≤x∧x≤255) {n:Int} (hn:n≤999999999) {s:aB} (h:Sr c n s) (m:Int):∃v s',aS s m=some (v,s')∧0≤v∧(1≤m→v<m)∧Sr c (n+2) s':=by
 unfold aS
 by_cases q:m≤1
 ·rw [if_pos q]
  exact ⟨_,_,rfl,by omega,by omega,h.mono (by omega)⟩
 ·rw [if_neg q]
  obtain ⟨v,s1,e1,v1,v2,h1⟩:=XL hc (by omega) h
  have k6:∀(x:Int) (t:aB),0≤x→Sr c (n+2) t→∃v s',kW m x t.code t.at_ t.seed=some (v,s')∧0≤v∧(1≤m→v<m)∧Sr c (n+2) s':=by
   intro x t hx ht
   unfold kW md
   rw [if_neg (by omega),Option.bind_some]
   have e:x.tmod m=x % m:=Int.tmod_eq_emod_of_nonneg hx
   refine ⟨_,_,rfl,?_,fun _=>?_,ht⟩
   ·rw [e];exact Int.emod_nonneg _ (by omega)
   ·rw [e];exact Int.emod_lt_of_pos _ (by omega)
  simp only [e1,Option.bind_some]
  by_cases q2:m>200
  ·rw [if_pos q2]
   obtain ⟨w,s2,e2,w1,w2,h2⟩:=XL hc (n:=n+1) (by omega) h1
   simp only [e2,Option.bind_some]
   have a1:w64 (v*256)=v*256:=aV (by omega) (by omega)
   have a2:w64 (v*256+w)=v*256+w:=aV (by omega) (by omega)
   rw [a1,a2]
   exact k6 _ s2 (by omega) (h2.mono (by omega))
  ·rw [if_neg q2]
   exact k6 v s1 v1 (h1.mono (by omega))
theorem UB {c:List Int} (hc:∀x∈c,0≤x∧x≤255) {n:Int} (hn:n≤999999999) {s:aB} (h:Sr c n s) (l:List Int) (hl:1≤l.length):∃v s',iC s l=some (v,s')∧v∈l∧Sr c (n+2) s':=by
 obtain ⟨v,s',e,v1,v2,h'⟩:=qE hc hn h (l.length:Int)
 have v3:=v2 (by omega)
 obtain ⟨i,hi⟩:∃i:Nat,v=(i:Int):=⟨v.toNat,by omega⟩
 subst hi
 have hlt:i<l.length:=by omega
 unfold iC
 rw [e]
 simp only [Option.bind_some,iK hlt]
 exact ⟨_,_,rfl,List.getElem_mem hlt,h'⟩
theorem XM (c:List Int):∃s,yj c=some s∧Sr c 0 s:=⟨_,rfl,rfl,by show (0:Int)≤0;omega,by show (0:Int)≤0;omega⟩
theorem acI {c:List Int} (hc:∀x∈c,0≤x∧x≤255) {n:Int} (hn:n≤999999999) {s:aB} (h:Sr c n s) (l:List ByteArray) (hl:1≤l.length):∃v s',jm s l=some (v,s')∧Sr c (n+2) s':=by
 obtain ⟨v,s',e,v1,v2,h'⟩:=qE hc hn h (l.length:Int)
 have v3:=v2 (by omega)
 obtain ⟨i,hi⟩:∃i:Nat,v=(i:Int):=⟨v.toNat,by omega⟩
 subst hi
 have hlt:i<l.length:=by omega
 unfold jm
 rw [e]
 simp only [Option.bind_some,iK hlt]
 exact ⟨_,_,rfl,h'⟩
theorem KE {c:List Int} (hc:∀x∈c,0≤x∧x≤255) {n:Int} {s:aB} (h:Sr c n s) (hn:n≤999999999) (m:Int):Ev (aS s m) (fun r=>0≤r.1∧(1≤m→r.1<m)∧Sr c (n+2) r.2):=by
 obtain ⟨v,s',e,h1,h2,h3⟩:=qE hc (by omega) h m
 exact ⟨_,e,h1,h2,h3⟩
theorem KF {c:List Int} (hc:∀x∈c,0≤x∧x≤255) {n:Int} {s:aB} (h:Sr c n s) (hn:n≤999999999) (l:List Int) (hl:1≤l.length):Ev (iC s l) (fun r=>r.1∈l∧Sr c (n+2) r.2):=by
 obtain ⟨v,s',e,h1,h3⟩:=UB hc (by omega) h l hl
 exact ⟨_,e,h1,h3⟩
theorem acJ {c:List Int} (hc:∀x∈c,0≤x∧x≤255) {n:Int} {s:aB} (h:Sr c n s) (hn:n≤999999999) (l:List ByteArray) (hl:1≤l.length):Ev (jm s l) (fun r=>Sr c (n+2) r.2):=by
 obtain ⟨v,s',e,h3⟩:=acI hc (by omega) h l hl
 exact ⟨_,e,h3⟩
theorem aaG {k:Nat} (hk:k<10):∃(tb:List (List Int)) (row:List Int) (b:Int) (nm:ByteArray),nX=some tb∧rd tb (k:Int)=some row∧rd row 0=some b∧0≤b∧b≤100∧rd nms (k:Int)=some nm∧fJ nm=some (b,true):=by
 have hc:k=0∨k=1∨k=2∨k=3∨k=4∨k=5∨k=6∨k=7∨k=8∨k=9:=by omega
 have key:∀{tb:List (List Int)} {row:List Int} {b:Int} {nm:ByteArray},nX=some tb→rd tb (k:Int)=some row→rd row 0=some b→0≤b→b≤100→rd nms (k:Int)=some nm→fJ nm=some (b,true)→
  ∃(tb:List (List Int)) (row:List Int) (b:Int) (nm:ByteArray),nX=some tb∧rd tb (k:Int)=some row∧rd row 0=some b∧0≤b∧b≤100∧rd nms (k:Int)=some nm∧fJ nm=some (b,true):=
  fun h1 h2 h3 h4 h5 h6 h7=>⟨_,_,_,_,h1,h2,h3,h4,h5,h6,h7⟩
 unfold fJ oz at key ⊢
 rcases hc with rfl | rfl | rfl | rfl | rfl | rfl | rfl | rfl | rfl | rfl
 ·exact key (nm:=⟨#[97,115,104]⟩) (b:=20) rfl rfl rfl (by decide) (by decide) rfl (by rw [if_pos rfl];rfl)
 ·exact key (nm:=⟨#[98,101,101,99,104]⟩) (b:=35) rfl rfl rfl (by decide) (by decide) rfl (by rw [if_neg (aT (by decide)),if_pos rfl];rfl)
 ·exact key (nm:=⟨#[98,105,114,99,104]⟩) (b:=15) rfl rfl rfl (by decide) (by decide) rfl (by rw [if_neg (aT (by decide)),if_neg (aT (by decide)),if_pos rfl];rfl)
 ·exact key (nm:=⟨#[99,104,101,114,114,121]⟩) (b:=50) rfl rfl rfl (by decide) (by decide) rfl (by rw [if_neg (aT (by decide)),if_neg (aT (by decide)),if_neg (aT (by decide)),if_pos rfl];rfl)
 ·exact key (nm:=⟨#[101,98,111,110,121]⟩) (b:=95) rfl rfl rfl (by decide) (by decide) rfl (by rw [if_neg (aT (by decide)),if_neg (aT (by decide)),if_neg (aT (by decide)),if_neg (aT (by decide)),if_pos rfl];rfl)
 ·exact key (nm:=⟨#[104,111,108,108,121]⟩) (b:=5) rfl rfl rfl (by decide) (by decide) rfl (by rw [if_neg (aT (by decide)),if_neg (aT (by decide)),if_neg (aT (by decide)),if_neg (aT (by decide)),if_neg (aT (by decide)),if_pos rfl];rfl)
 ·exact key (nm:=⟨#[109,97,112,108,101]⟩) (b:=10) rfl rfl rfl (by decide) (by decide) rfl (by rw [if_neg (aT (by decide)),if_neg (aT (by decide)),if_neg (aT (by decide)),if_neg (aT (by decide)),if_neg (aT (by decide)),if_neg (aT (by decide)),if_pos rfl];rfl)
 ·exact key (nm:=⟨#[111,97,107]⟩) (b:=40) rfl rfl rfl (by decide) (by decide) rfl (by rw [if_neg (aT (by decide)),if_neg (aT (by decide)),if_neg (aT (by decide)),if_neg (aT (by decide)),if_neg (aT (by decide)),if_neg (aT (by decide)),if_neg (aT (by decide)),if_pos rfl];rfl)
 ·exact key (nm:=⟨#[114,111,115,101,119,111,111,100]⟩) (b:=80) rfl rfl rfl (by decide) (by decide) rfl (by rw [if_neg (aT (by decide)),if_neg (aT (by decide)),if_neg (aT (by decide)),if_neg (aT (by decide)),if_neg (aT (by decide)),if_neg (aT (by decide)),if_neg (aT (by decide)),if_neg (aT (by decide)),if_pos rfl];rfl)
 ·exact key (nm:=⟨#[119,97,108,110,117,116]⟩) (b:=70) rfl rfl rfl (by decide) (by decide) rfl (by rw [if_neg (aT (by decide)),if_neg (aT (by decide)),if_neg (aT (by decide)),if_neg (aT (by decide)),if_neg (aT (by decide)),if_neg (aT (by decide)),if_neg (aT (by decide)),if_neg (aT (by decide)),if_neg (aT (by decide)),if_pos rfl];rfl)
theorem O1 {c:List Int} (hc:∀x∈c,0≤x∧x≤255) {n:Int} (hn:n≤900000000) {s:aB} (h:Sr c n s):∃v s',vX s=some (v,s')∧O0 v=true∧Sr c (n+8) s':=by
 obtain ⟨k,s1,e1,k0,k1,h1⟩:=qE hc (by omega) h 10
 have k1:=k1 (by omega)
 obtain ⟨kk,rfl⟩:∃kk:Nat,k=(kk:Int):=⟨k.toNat,by omega⟩
 obtain ⟨tb,row,b,nm,t1,t2,t3,t4,t5,t6,t7⟩:=aaG (k:=kk) (by omega)
 obtain ⟨v,s2,e2,v0,v1,h2⟩:=qE hc (by omega) h1 21
 have v1:=v1 (by omega)
 obtain ⟨x,s3,e3,x0,x1,h3⟩:=qE hc (by omega) h2 180
 have x1:=x1 (by omega)
 obtain ⟨y,s4,e4,y0,h4⟩:=UB hc (by omega) h3 [x,x,0,90,45] (by simp)
 have hN:uA=some nms:=rfl
 unfold vX
 rw [e1,Option.bind_some,t1,Option.bind_some,t2,Option.bind_some,t3,Option.bind_some,e2,Option.bind_some,hN,Option.bind_some,t6,Option.bind_some,aV (n:=b+v) (by omega) (by omega),aV (n:=b+v - 10) (by omega) (by omega),aaC,Option.bind_some,XK,Option.bind_some,e3,Option.bind_some,e4,Option.bind_some]
 refine ⟨_,_,rfl,?_,h4.mono (by omega)⟩
 have hy:0≤y∧y≤179:=by
  simp only [List.mem_cons,List.not_mem_nil,or_false] at y0
  omega
 have e:=Qy ⟨nm,min2 100 (max2 0 (b+v - 10)),y⟩
 generalize hm:min2 100 (max2 0 (b+v - 10))=m at e ⊢
 have hm2:0≤m∧m≤100∧b - 15≤m∧m≤b+15:=by
  rcases qL 0 (b+v - 10) with q | q<;>rcases qM 100 (max2 0 (b+v - 10)) with p | p<;>omega
 unfold jo at e
 simp only [t7,Option.bind_some,rG,if_true] at e
 rw [aV (n:=m - b) (by omega) (by omega),decide_eq_true (show 0≤m∧m≤100 by omega),decide_eq_true (show -15≤m - b∧m - b≤15 by omega),decide_eq_true hy] at e
 simpa using e.symm
def Lo (x:aH):Prop:=0≤x.wH∧x.wH≤1000000∧0≤x.iV∧x.iV≤10000∧1≤x.Priority∧x.Priority≤9
theorem XN (x:aH):xQ x=jQ x:=by
 unfold xQ jQ
 rw [nm]
 simp only [UA,Qy,XJ,rG]
theorem Qz (x:aH):∃v:Bool,jQ x=some v∧(v=true→Lo x):=by
 obtain ⟨n,_,n2⟩:=MZ x.Name
 unfold jQ Lo
 rw [n2,Qy]
 simp only [rG,Option.bind_some]
 cases n with
 | false=>exact ⟨false,rfl,fun h=>by cases h⟩
 | true=>
  cases O0 x.dX with
  | false=>exact ⟨false,rfl,fun h=>by cases h⟩
  | true=>
   by_cases c1:1≤x.Area∧x.Area≤400000000
   ·by_cases c2:1≤x.Priority∧x.Priority≤9
    ·by_cases c3:0≤x.wH∧x.wH≤1000000
     ·by_cases c4:0≤x.iV∧x.iV≤10000
      ·rw [decide_eq_true c1,decide_eq_true c2,decide_eq_true c3,decide_eq_true c4]
       exact ⟨true,rfl,fun _=>⟨c3.1,c3.2,c4.1,c4.2,c2.1,c2.2⟩⟩
      ·rw [decide_eq_true c1,decide_eq_true c2,decide_eq_true c3,decide_eq_false c4]
       exact ⟨false,rfl,fun h=>by cases h⟩
     ·rw [decide_eq_true c1,decide_eq_true c2,decide_eq_false c3]
      exact ⟨false,rfl,fun h=>by cases h⟩
    ·rw [decide_eq_true c1,decide_eq_false c2]
     exact ⟨false,rfl,fun h=>by cases h⟩
   ·rw [decide_eq_false c1]
    exact ⟨false,rfl,fun h=>by cases h⟩
theorem ok_eq (l:List aH):BJ l=eG l:=by
 have e:zx l=fA l:=by
  funext i
  unfold zx fA
  by_cases c:i< (l.length:Int)
  ·rw [if_pos c,if_pos c]
   cases h:rd l i with
   | none=>rfl
   | some x=>simp only [Option.bind_some,XN]
  ·rw [if_neg c,if_neg c]
 unfold BJ eG
 rw [e]
theorem UC (l:List aH) (hl:l.length≤1048576):∃v:Bool,eG l=some v∧(v=true→l.length≤16∧∀f∈l,Lo f):=by
 unfold eG
 rcases aeB (f:=fA l) l Lo (by omega) (fun i hi=>by
  obtain ⟨v,v1,v2⟩:=Qz l[i]
  unfold fA
  rw [if_pos (by omega),iK hi,Option.bind_some,v1,Option.bind_some]
  cases v with
  | false=>exact .inr rfl
  | true=>
   rw [if_pos rfl]
   by_cases c0:(i:Int) >0
   ·rw [if_pos c0,KD (by omega) (by omega),iK (show i - 1<l.length by omega)]
    simp only [Option.bind_some]
    cases Op.bytesLess (l[i - 1]'(by omega)).Name.toList l[i].Name.toList with
    | true=>exact .inl ⟨rfl,v2 rfl⟩
    | false=>exact .inr rfl
   ·rw [if_neg c0]
    exact .inl ⟨rfl,v2 rfl⟩) (by
  unfold fA
  rw [if_neg (by omega)]) with ⟨q1,q2⟩ | q
 ·rw [q1]
  refine ⟨_,rfl,fun h=>⟨?_,q2⟩⟩
  have:=of_decide_eq_true h
  omega
 ·rw [q]
  exact ⟨false,rfl,fun h=>by cases h⟩
abbrev FR:=(aJ×List Int×Int×Int×Int×Int)→Option (Bool×aJ)
theorem aik (x:aJ) (F:List Int) (a b c d:Int):Fs (fun self:FR=>ig self x F a b c d):=by
 have lp:∀s,Fs (fun self:FR=>aI (bW self F d c b) s):=fun s=>Fs.loop (fun s=>by
  obtain ⟨a1,a2,a3,a4,a5⟩:=s
  unfold bW gG
  exact Fs.ite (Fs.bind (Fs.const _) fun _=>Fs.ite (Fs.const _) (Fs.bind (Fs.const _) fun _=>Fs.bind (Fs.const _) fun _=>Fs.bind (Fs.app _) fun _=>Fs.ite (Fs.const _) (Fs.const _))) (Fs.const _)) s
 unfold ig iM
 exact Fs.ite (Fs.const _) (Fs.ite (Fs.bind (lp _) fun _=>Fs.const _) (Fs.bind (lp _) fun _=>Fs.const _))
noncomputable abbrev SR:FR:=fun s=>iT s.1 s.2.1 s.2.2.1 s.2.2.2.1 s.2.2.2.2.1 s.2.2.2.2.2
theorem run_eq (x:aJ) (F:List Int) (a b c d:Int):iT x F a b c d=ig SR x F a b c d:=by
 show D9 _ _=_
 rw [Q4]
 ·rfl
 ·rintro ⟨x,F,a,b,c,d⟩
  exact aik x F a b c d
theorem XO (x y:Int):dL x y=some (decide (x<y)):=by
 unfold dL tZ
 simp
theorem agU:∀(L:List Int) (x:Int) (R:List Int),L.Pairwise (·≤·)→(L++x::R).length≤1048576→
 ∃M,aI (bQ 0) ((L.length:Int),L++x::R)=some (M++R)∧M.Perm (L++[x])∧M.Pairwise (·≤·):=by
 intro L
 induction hn:L.length generalizing L with
 | zero=>
  intro x R hL hl
  obtain rfl:=List.eq_nil_of_length_eq_zero hn
  refine ⟨[x],bG ?_,List.Perm.refl _,List.pairwise_singleton _ _⟩
  unfold bQ
  simp only
  rw [if_neg (by omega)]
  rfl
 | succ n ih=>
  intro x R hL hl
  obtain ⟨L',y,rfl⟩:∃L' y,L=L'++[y]:=by
   rcases List.eq_nil_or_concat L with rfl | ⟨L',y,rfl⟩
   ·cases hn
   ·exact ⟨L',y,List.concat_eq_append⟩
  have hl':L'.length=n:=by rw [List.length_append,List.length_singleton] at hn;omega
  have hlen:(L'++[y]++x::R).length=n+1+(R.length+1):=by rw [List.length_append,List.length_append,hl'];rfl
  have hp:w64 (((n+1:Nat):Int) - 1)=(n:Int):=by rw [aV (by omega) (by omega)];omega
  have gx:(L'++[y]++x::R)[n+1]'(by omega)=x:=by
   rw [List.getElem_append_right (by rw [List.length_append,hl',List.length_singleton];omega)]
   simp [hl']
  have gy:(L'++[y]++x::R)[n]'(by omega)=y:=by
   rw [List.getElem_append_left (by rw [List.length_append,hl',List.length_singleton];omega),List.getElem_append_right (by omega)]
   simp [hl']
  have r1:rd (L'++[y]++x::R) ((n+1:Nat):Int)=some x:=by rw [iK (by omega),gx]
  have r2:rd (L'++[y]++x::R) (n:Int)=some y:=by rw [iK (by omega),gy]
  rw [List.pairwise_append] at hL
  by_cases c:x<y
  ·have e1:(L'++[y]++x::R).set (n+1) y=L'++[y]++y::R:=by
    rw [List.set_append_right _ _ (by rw [List.length_append,hl',List.length_singleton];omega),List.length_append,hl',List.length_singleton,Nat.sub_self]
    rfl
   have e2:(L'++[y]++y::R).set n x=L'++x::y::R:=by
    rw [List.append_assoc,List.set_append_right _ _ (by omega),hl',Nat.sub_self]
    rfl
   have st:bQ 0 (((n+1:Nat):Int),L'++[y]++x::R)=some (.inl ((n:Int),L'++x::y::R)):=by
    unfold bQ
    simp only
    rw [if_pos (by omega),r1,Option.bind_some,hp,r2,Option.bind_some,XO,Option.bind_some,Option.bind_some,decide_eq_true c,if_pos rfl,Option.bind_some,Int.toNat_natCast,Int.toNat_natCast,e1,iK (show n< (L'++[y]++y::R).length by rw [List.length_append,List.length_append,hl',List.length_singleton];omega)]
    simp only [Option.bind_some,e2]
   obtain ⟨M,m1,m2,m3⟩:=ih L' hl' x (y::R) hL.1 (by rw [List.length_append] at hlen ⊢;simp at hlen ⊢;simp at hl;omega)
   refine ⟨M++[y],by rw [dA st,m1,List.append_assoc];rfl,?_,?_⟩
   ·exact (m2.append_right [y]).trans (by rw [List.append_assoc,List.append_assoc];exact (List.Perm.swap y x []).append_left L')
   ·rw [List.pairwise_append]
    refine ⟨m3,List.pairwise_singleton _ _,fun a ha b hb=>?_⟩
    rw [List.mem_singleton.1 hb]
    rcases List.mem_append.1 (m2.mem_iff.1 ha) with h | h
    ·exact hL.2.2 a h y (List.mem_singleton.2 rfl)
    ·rw [List.mem_singleton.1 h];omega
  ·refine ⟨L'++[y]++[x],bG ?_,List.Perm.refl _,?_⟩
   ·unfold bQ
    simp only
    rw [if_pos (by omega),r1,Option.bind_some,hp,r2,Option.bind_some,XO,Option.bind_some,Option.bind_some,decide_eq_false c,if_neg (by decide)]
    simp
   ·rw [List.pairwise_append,List.pairwise_append]
    refine ⟨hL,List.pairwise_singleton _ _,fun a ha b hb=>?_⟩
    rw [List.mem_singleton.1 hb]
    rcases List.mem_append.1 ha with h | h
    ·have:=hL.2.2 a h y (List.mem_singleton.2 rfl);omega
    ·rw [List.mem_singleton.1 h];omega
theorem aeE:∀(R L:List Int),L.Pairwise (·≤·)→(L++R).length≤1048576→
 ∃M,aI (bu 0 ((L++R).length:Int)) ((L.length:Int),L++R)=some M∧M.Perm (L++R)∧M.Pairwise (·≤·):=by
 intro R
 induction R with
 | nil=>
  intro L hL hl
  refine ⟨L++[],bG ?_,List.Perm.refl _,by simpa using hL⟩
  unfold bu
  simp only [List.append_nil]
  rw [if_neg (by omega)]
 | cons x R ih=>
  intro L hL hl
  obtain ⟨M,m1,m2,m3⟩:=agU L x R hL hl
  have hML:=m2.length_eq
  have st:bu 0 ((L++x::R).length:Int) ((L.length:Int),L++x::R)=some (.inl ((M.length:Int),M++R)):=by
   unfold bu
   simp only
   rw [if_pos (by rw [List.length_append,List.length_cons];omega),m1,Option.bind_some,gB (by rw [List.length_append] at hl;omega),hML,List.length_append]
   rfl
  rw [dA st]
  have e:(M++R).length=(L++x::R).length:=by simp at hML ⊢;omega
  obtain ⟨M',n1,n2,n3⟩:=ih M m3 (by omega)
  rw [e] at n1
  refine ⟨M',n1,n2.trans ?_,n3⟩
  have:=m2.append_right R
  simpa using this
theorem aeF (l:List Int) (hl:l.length≤12):∃M,fZ l 0 (l.length:Int)=some M∧M.Perm l∧M.Pairwise (·≤·):=by
 unfold fZ
 cases l with
 | nil=>
  refine ⟨[],?_,List.Perm.refl _,List.Pairwise.nil⟩
  rw [bG (r:=[]) (by
   unfold bu
   simp only
   rw [aV (by omega) (by omega),if_neg (by simp)])]
  rfl
 | cons x R=>
  obtain ⟨M,m1,m2,m3⟩:=aeE R [x] (List.pairwise_singleton _ _) (by simp at hl ⊢;omega)
  have m1:aI (bu 0 ((x::R).length:Int)) (1,x::R)=some M:=m1
  refine ⟨M,?_,m2,m3⟩
  rw [aV (n:=0+1) (by omega) (by omega),show (0:Int)+1=1 by omega,m1]
  rfl
abbrev FPq:=((List Int)×Int×Int×Int)→Option (List Int)
theorem aeG (a:List Int) (b c d:Int):Fs (fun self:FPq=>dY self a b c d):=by
 have k17:∀a b c d e f g,Fs (fun self:FPq=>fC self a b c d e f g):=by
  intros
  unfold fC
  exact Fs.bind (Fs.const _) fun _=>Fs.ite (Fs.const _) (Fs.bind (Fs.const _) fun _=>Fs.bind (Fs.const _) fun _=>Fs.ite (Fs.bind (Fs.app _) fun _=>Fs.const _) (Fs.bind (Fs.app _) fun _=>Fs.const _))
 have k15:∀a b c d e f g h,Fs (fun self:FPq=>fD self a b c d e f g h):=by
  intros
  unfold fD
  exact Fs.ite (Fs.bind (Fs.const _) fun _=>Fs.ite (Fs.const _) (k17 _ _ _ _ _ _ _)) (k17 _ _ _ _ _ _ _)
 have k10:∀a b c d e f,Fs (fun self:FPq=>fE self a b c d e f):=by
  intros
  unfold fE
  exact Fs.bind (Fs.const _) fun _=>Fs.ite (Fs.bind (Fs.const _) fun _=>k15 _ _ _ _ _ _ _ _) (k15 _ _ _ _ _ _ _ _)
 unfold dY
 refine Fs.bind (Fs.loop (fun s=>?_) _) fun _=>Fs.const _
 obtain ⟨a1,a2,a3,a4,a5,a6⟩:=s
 unfold jr
 exact Fs.ite (Fs.const _) (Fs.ite (Fs.const _) (Fs.ite (k10 _ _ _ _ _ _) (Fs.bind (Fs.const _) fun _=>k10 _ _ _ _ _ _)))
theorem aeH {n:Nat} (h:n≤12):∃v,bits_Len (IntKind.wrap .u64 (n:Int))=some v:=by
 have hc:n=0∨n=1∨n=2∨n=3∨n=4∨n=5∨n=6∨n=7∨n=8∨n=9∨n=10∨n=11∨n=12:=by omega
 rcases hc with rfl | rfl | rfl | rfl | rfl | rfl | rfl | rfl | rfl | rfl | rfl | rfl | rfl<;>exact ⟨_,rfl⟩
theorem VA (l:List Int) (hl:l.length≤12):∃M,gZ l=some M∧M.Perm l∧M.Pairwise (·≤·):=by
 obtain ⟨v,hv⟩:=aeH hl
 obtain ⟨M,m1,m2,m3⟩:=aeF l hl
 refine ⟨M,?_,m2,m3⟩
 unfold gZ
 rw [hv,Option.bind_some]
 have e:kF l 0 (l.length:Int) v=some M:=by
  show D9 _ _=_
  rw [Q4]
  ·show dY _ l 0 (l.length:Int) v=_
   unfold dY
   rw [bG (r:=M) (by
    unfold jr
    simp only
    rw [aV (n:=(l.length:Int) - 0) (by omega) (by omega),if_pos (by omega),m1]
    rfl)]
   rfl
  ·rintro ⟨a,b,c,d⟩
   exact aeG a b c d
 rw [e]
 rfl
theorem aeI {cmp:Int→Int→Option Int}:∀(j:Nat) (l:List Int),j<l.length→l.length≤1048576→(∀x∈l,∀y∈l,∃v,cmp x y=some v)→
 ∃l',aI (bM 0 cmp) ((j:Int),l)=some l'∧l'.Perm l:=by
 intro j
 induction j with
 | zero=>
  intro l hj hl hc
  refine ⟨l,bG ?_,List.Perm.refl _⟩
  unfold bM
  simp only
  rw [if_neg (by omega)]
  simp
 | succ j ih=>
  intro l hj hl hc
  have hp:w64 (((j+1:Nat):Int) - 1)=((j:Nat):Int):=by rw [aV (by omega) (by omega)];omega
  have hj':j<l.length:=by omega
  obtain ⟨v,hv⟩:=hc l[j+1] (List.getElem_mem hj) l[j] (List.getElem_mem hj')
  by_cases c:v<0
  ·have S1:bM 0 cmp (((j+1:Nat):Int),l)=some (.inl ((j:Int),(l.set (j+1) l[j]).set j l[j+1])):=by
    unfold bM
    simp only
    rw [if_pos (by omega),iK hj,Option.bind_some,hp,iK hj',Option.bind_some,hv]
    simp only [Option.bind_some,decide_eq_true_eq]
    rw [if_pos c,iK (show j< (l.set ((j+1:Nat):Int).toNat l[j]).length by rw [List.length_set];exact hj')]
    rfl
   rw [dA S1]
   have pm:((l.set (j+1) l[j]).set j l[j+1]).Perm l:=List.set_set_perm hj hj'
   obtain ⟨l',h1,h2⟩:=ih _ (by simp;omega) (by simp;omega) (fun x hx y hy=>hc x (pm.mem_iff.1 hx) y (pm.mem_iff.1 hy))
   exact ⟨l',h1,h2.trans pm⟩
  ·refine ⟨l,bG ?_,List.Perm.refl _⟩
   unfold bM
   simp only
   rw [if_pos (by omega),iK hj,Option.bind_some,hp,iK hj',Option.bind_some,hv]
   simp only [Option.bind_some,decide_eq_true_eq]
   rw [if_neg c]
theorem acK {cmp:Int→Int→Option Int}:∀(m i:Nat) (l:List Int),i+m=l.length→l.length≤1048576→(∀x∈l,∀y∈l,∃v,cmp x y=some v)→
 ∃l',aI (aX 0 (l.length:Int) cmp) ((i:Int),l)=some l'∧l'.Perm l:=by
 intro m
 induction m with
 | zero=>
  intro i l hi hl hc
  refine ⟨l,bG ?_,List.Perm.refl _⟩
  unfold aX
  simp only
  rw [if_neg (by omega)]
 | succ m ih=>
  intro i l hi hl hc
  obtain ⟨l1,h1,h2⟩:=aeI i l (by omega) hl hc
  have S1:aX 0 (l.length:Int) cmp ((i:Int),l)=some (.inl (((i+1:Nat):Int),l1)):=by
   unfold aX
   simp only
   rw [if_pos (by omega),h1,Option.bind_some,gB (by omega)]
  rw [dA S1]
  have e:=h2.length_eq
  obtain ⟨l',h3,h4⟩:=ih (i+1) l1 (by omega) (by omega) (fun x hx y hy=>hc x (h2.mem_iff.1 hx) y (h2.mem_iff.1 hy))
  rw [e] at h3
  exact ⟨l',h3,h4.trans h2⟩
theorem acL {cmp:Int→Int→Option Int} {l:List Int} (hl:l.length≤1048576) (hc:∀x∈l,∀y∈l,∃v,cmp x y=some v):
 ∃l',dV l 0 (l.length:Int) cmp=some l'∧l'.Perm l:=by
 unfold dV
 have e:w64 (0+1)=1:=rfl
 rw [e]
 cases l with
 | nil=>
  refine ⟨[],?_,List.Perm.refl _⟩
  have:aI (aX 0 (([]:List Int).length:Int) cmp) (1,[])=some []:=by
   refine bG ?_
   unfold aX
   simp
  rw [this]
  rfl
 | cons x l=>
  obtain ⟨l',h1,h2⟩:=acK l.length 1 (x::l) (by simp;omega) hl hc
  have h1':aI (aX 0 ((x::l).length:Int) cmp) (1,x::l)=some l':=h1
  rw [h1']
  exact ⟨l',rfl,h2⟩
theorem YM {cmp:Int→Int→Option Int} {l:List Int} (hl:l.length≤19) (hc:∀x∈l,∀y∈l,∃v,cmp x y=some v):
 ∃l',fV l cmp=some l'∧l'.Perm l:=by
 unfold fV kR
 have h1:aI (jG cmp (l.length:Int)) (0,20,l)=some (0,l):=by
  refine bG ?_
  unfold jG
  simp only
  rw [if_neg (by omega)]
 obtain ⟨l',h2,h3⟩:=acL (by omega) hc
 have h4:aI (jF cmp (l.length:Int)) (20,l')=some l':=by
  refine bG ?_
  unfold jF
  simp only
  rw [if_neg (by omega)]
 refine ⟨l',?_,h3⟩
 rw [h1]
 simp only [Option.bind_some,h2,h4]
def gL (l:List aH) (i:Int):aH:=l.getD i.toNat ⟨⟨#[]⟩,⟨⟨#[]⟩,0,0⟩,0,0,0,0⟩
def sm (g:Int→Int):List Int→Int
 | []=>0
 | x::t=>g x+sm g t
theorem aeJ (g:Int→Int) (a b:List Int):sm g (a++b)=sm g a+sm g b:=by
 induction a with
 | nil=>simp [sm]
 | cons x a ih=>
  show g x+sm g (a++b)=g x+sm g a+sm g b
  rw [ih];omega
theorem XP {g:Int→Int} {a b:List Int} (h:a.Perm b):sm g a=sm g b:=by
 induction h with
 | nil=>rfl
 | cons x _ ih=>show g x+_=g x+_;rw [ih]
 | swap x y l=>show g y+(g x+_)=g x+(g y+_);omega
 | trans _ _ i1 i2=>rw [i1,i2]
theorem aaH {g:Int→Int} {C:Int} {a:List Int} (h:∀x∈a,0≤g x∧g x≤C):0≤sm g a∧sm g a≤C*a.length:=by
 induction a with
 | nil=>exact ⟨Int.le_refl _,by simp [sm]⟩
 | cons x a ih=>
  obtain ⟨h1,h2⟩:=h x (List.mem_cons_self ..)
  obtain ⟨i1,i2⟩:=ih fun y hy=>h y (List.mem_cons_of_mem _ hy)
  refine ⟨?_,?_⟩
  ·show 0≤g x+sm g a
   omega
  ·show g x+sm g a≤C* ((a.length+1:Nat):Int)
   rw [Int.natCast_add,Int.mul_add]
   simp
   omega
theorem SS {g:Int→Int} {E:List Int} {t:Nat} (h:t<E.length):sm g (E.take (t+1))=sm g (E.take t)+g E[t]:=by
 rw [List.take_succ_eq_append_getElem h,aeJ]
 show _+(g E[t]+0)=_
 omega
section
variable {l:List aH}
abbrev gP (l:List aH) (i:Int):Int:=(gL l i).Priority
abbrev gC (l:List aH) (i:Int):Int:=(gL l i).wH
abbrev gM (l:List aH) (i:Int):Int:=(gL l i).iV
theorem QA {i:Int} (h0:0≤i) (h1:i<l.length):rd l i=some (gL l i)∧gL l i∈l:=by
 obtain ⟨k,rfl⟩:∃k:Nat,i=(k:Int):=⟨i.toNat,by omega⟩
 have hk:k<l.length:=by omega
 have e:gL l (k:Int)=l[k]:=by
  unfold gL
  rw [Int.toNat_natCast,List.getD_eq_getElem?_getD,List.getElem?_eq_getElem hk];rfl
 rw [e]
 exact ⟨iK hk,List.getElem_mem hk⟩
variable (hL:∀x∈l,Lo x)
include hL
theorem aaI {E:List Int} (hE:∀x∈E,0≤x∧x<l.length):0≤sm (gP l) E∧sm (gP l) E≤9*E.length∧0≤sm (gC l) E∧sm (gC l) E≤1000000*E.length∧0≤sm (gM l) E∧sm (gM l) E≤10000*E.length:=by
 have h:∀x∈E,Lo (gL l x):=fun x hx=>hL _ (QA (hE x hx).1 (hE x hx).2).2
 obtain ⟨a1,a2⟩:=aaH (g:=gP l) (C:=9) (a:=E) fun x hx=>by obtain ⟨h1,h2,h3,h4,h5,h6⟩:=h x hx;exact ⟨by show 0≤(gL l x).Priority;omega,h6⟩
 obtain ⟨b1,b2⟩:=aaH (g:=gC l) (C:=1000000) (a:=E) fun x hx=>by obtain ⟨h1,h2,h3,h4,h5,h6⟩:=h x hx;exact ⟨h1,h2⟩
 obtain ⟨c1,c2⟩:=aaH (g:=gM l) (C:=10000) (a:=E) fun x hx=>by obtain ⟨h1,h2,h3,h4,h5,h6⟩:=h x hx;exact ⟨h3,h4⟩
 exact ⟨a1,a2,b1,b2,c1,c2⟩
omit hL in
theorem acM {E:List Int} (hE:E.Pairwise (· < ·)) (hR:∀x∈E,0≤x∧x<l.length):E.length≤l.length:=by
 have:=YI E (upto l.length) (hE.imp fun h e=>by omega) fun x hx=>aay.2 (hR x hx)
 rw [Uz] at this
 exact this
theorem XQ (hv:eG l=some true) (hl:l.length≤16) {E:List Int} (hE:E.Pairwise (· < ·)) (hR:∀x∈E,0≤x∧x<l.length):uF l E=some (sm (gP l) E,sm (gC l) E,sm (gM l) E,0):=by
 have hEl:=acM hE hR
 unfold uF
 rw [hv,Option.bind_some,if_pos rfl]
 have e:aI (rq E l) (0,0,0,0)=some (.inl (sm (gP l) E,sm (gC l) E,sm (gM l) E)):=by
  refine ER (fun t:Nat=>(sm (gP l) (E.take t),sm (gC l) (E.take t),sm (gM l) (E.take t),(t:Int))) E.length (fun t ht=>?_) ?_
  ·obtain ⟨r0,r1⟩:=hR _ (List.getElem_mem ht)
   obtain ⟨g1,g2⟩:=QA r0 r1
   obtain ⟨k1,k2,k3,k4,k5,k6⟩:=hL _ g2
   obtain ⟨s1,s2,s3,s4,s5,s6⟩:=aaI hL (E:=E.take t) fun x hx=>hR x (List.mem_of_mem_take hx)
   have htl:(E.take t).length≤16:=by rw [List.length_take];omega
   unfold rq
   simp only
   rw [if_pos (by omega),iK ht,Option.bind_some,rG,Option.bind_some,aV (n:=(l.length:Int) - 1) (by omega) (by omega),decide_eq_true (show 0≤E[t]∧E[t]≤(l.length:Int) - 1 by omega),if_pos rfl]
   have hb:(if (t:Int) >0 then (rd E (w64 ((t:Int) - 1))).bind fun x36=>some (decide (x36≥E[t])) else some false)=some false:=by
    by_cases c:(t:Int) >0
    ·rw [if_pos c,KD (by omega) (by omega),iK (show t - 1<E.length by omega),Option.bind_some]
     have:=List.pairwise_iff_getElem.1 hE (t - 1) t (by omega) ht (by omega)
     rw [decide_eq_false (by omega)]
    ·rw [if_neg c]
   rw [hb,Option.bind_some,if_neg (by decide),g1]
   simp only [Option.bind_some]
   rw [SS ht,SS ht,SS ht,aV (n:=_+(gL l E[t]).Priority) (by omega) (by omega),aV (n:=_+(gL l E[t]).wH) (by omega) (by omega),aV (n:=_+(gL l E[t]).iV) (by omega) (by omega),gB (by omega)]
  ·unfold rq
   simp only
   rw [if_neg (by omega),List.take_length]
 rw [e]
 rfl
end
theorem VB (n:Nat):((List.range n).map fun k:Nat=>(k:Int)).Nodup:=List.Pairwise.map _ (fun a b hab e=>hab (by exact_mod_cast e)) List.nodup_range
theorem aeK {M:List Int} (h1:M.Pairwise (·≤·)) (h2:M.Nodup):M.Pairwise (· < ·):=(h1.and h2).imp fun h=>by have:=h.2;have:=h.1;omega
section
variable {l:List aH} (hL:∀x∈l,Lo x) (hl:l.length≤12)
include hL hl
omit hL in
theorem YN:∃U,zO l=some U∧U.Perm ((List.range l.length).map fun k:Nat=>(k:Int)):=by
 unfold zO
 have e:aI (vG l) (0,[])=some ((List.range l.length).map fun k:Nat=>(k:Int)):=by
  refine ER (fun t:Nat=>((t:Int),(List.range t).map fun k:Nat=>(k:Int))) l.length (fun t ht=>?_) ?_
  ·unfold vG
   simp only
   rw [if_pos (by omega),II (by rw [List.length_map,List.length_range,List.length_singleton];omega),Option.bind_some,gB (by omega),List.range_succ,List.map_append]
   rfl
  ·unfold vG
   simp only
   rw [if_neg (by omega)]
 rw [e,Option.bind_some]
 have hin:∀x∈(List.range l.length).map (fun k:Nat=>(k:Int)),0≤x∧x<l.length:=by
  intro x hx
  obtain ⟨k,hk,rfl⟩:=List.mem_map.1 hx
  have:=List.mem_range.1 hk
  omega
 obtain ⟨U,u1,u2⟩:=YM (cmp:=fun a0 a1=>fB a0 a1 l) (l:=(List.range l.length).map fun k:Nat=>(k:Int)) (by rw [List.length_map,List.length_range];omega) (fun x hx y hy=>by
  obtain ⟨g1,g2⟩:=QA (hin x hx).1 (hin x hx).2
  obtain ⟨g3,g4⟩:=QA (hin y hy).1 (hin y hy).2
  unfold fB
  rw [g3,Option.bind_some,g1,Option.bind_some]
  split
  ·exact ⟨_,rfl⟩
  ·exact ⟨_,rfl⟩)
 rw [u1]
 exact ⟨U,rfl,u2⟩
omit hl in
theorem aaJ {U:List Int} (hU:∀x∈U,0≤x∧x<l.length) (hUl:U.length≤12):∀(k i:Nat) (out:List Int) (mo mi:Int),i+k=U.length→out.length≤i→0≤mo→mo≤16000000→0≤mi→mi≤160000→
 ∃o2,aI (fO l U) (mo,mi,(i:Int),out)=some (out++o2)∧o2.Sublist (U.drop i)∧sm (gC l) o2≤mo∧sm (gM l) o2≤mi:=by
 intro k
 induction k with
 | zero=>
  intro i out mo mi hi ho h1 h2 h3 h4
  refine ⟨[],bG ?_,List.nil_sublist _,h1,h3⟩
  unfold fO
  simp only
  rw [if_neg (by omega),List.append_nil]
 | succ k ih=>
  intro i out mo mi hi ho h1 h2 h3 h4
  have hi':i<U.length:=by omega
  obtain ⟨r0,r1⟩:=hU _ (List.getElem_mem hi')
  obtain ⟨g1,g2⟩:=QA r0 r1
  obtain ⟨k1,k2,k3,k4,k5,k6⟩:=hL _ g2
  have hd:U.drop i=U[i]::U.drop (i+1):=(List.getElem_cons_drop hi').symm
  by_cases c:(gL l U[i]).wH≤mo∧(gL l U[i]).iV≤mi
  ·have st:fO l U (mo,mi,(i:Int),out)=some (.inl (mo - (gL l U[i]).wH,mi - (gL l U[i]).iV,((i+1:Nat):Int),out++[U[i]])):=by
    unfold fO jv
    simp only
    rw [if_pos (by omega),iK hi',Option.bind_some,g1,Option.bind_some,if_pos c,II (by rw [List.length_singleton];omega),Option.bind_some,aV (n:=mo - (gL l U[i]).wH) (by omega) (by omega),aV (n:=mi - (gL l U[i]).iV) (by omega) (by omega),gB (by omega)]
   obtain ⟨o2,q1,q2,q3,q4⟩:=ih (i+1) (out++[U[i]]) (mo - (gL l U[i]).wH) (mi - (gL l U[i]).iV) (by omega) (by rw [List.length_append,List.length_singleton];omega) (by omega) (by omega) (by omega) (by omega)
   refine ⟨U[i]::o2,by rw [dA st,q1,List.append_assoc];rfl,by rw [hd];exact q2.cons_cons _,?_,?_⟩
   ·show (gL l U[i]).wH+sm (gC l) o2≤mo
    omega
   ·show (gL l U[i]).iV+sm (gM l) o2≤mi
    omega
  ·have st:fO l U (mo,mi,(i:Int),out)=some (.inl (mo,mi,((i+1:Nat):Int),out)):=by
    unfold fO jv
    simp only
    rw [if_pos (by omega),iK hi',Option.bind_some,g1,Option.bind_some,if_neg c,gB (by omega)]
   obtain ⟨o2,q1,q2,q3,q4⟩:=ih (i+1) out mo mi (by omega) (by omega) h1 h2 h3 h4
   exact ⟨o2,by rw [dA st];exact q1,by rw [hd];exact q2.cons _,q3,q4⟩
omit hL hl in
theorem XR (hv:eG l=some true) {ji minutes B:Int} (m0:0≤ji) (m1:ji≤16000000) (n0:0≤minutes) (n1:minutes≤160000) (b0:1≤B) (b1:B≤20000):oC l ji minutes B=some 0:=by
 unfold oC
 rw [hv,Option.bind_some,if_pos rfl]
 simp only [rG,Option.bind_some]
 rw [decide_eq_true (show 1≤B∧B≤20000 from ⟨b0,b1⟩),decide_eq_true (show 0≤ji∧ji≤16000000 from ⟨m0,m1⟩),decide_eq_true (show 0≤minutes∧minutes≤160000 from ⟨n0,n1⟩)]
 rfl
theorem YO (hv:eG l=some true) {ji minutes:Int} (m0:0≤ji) (m1:ji≤16000000) (n0:0≤minutes) (n1:minutes≤160000):
 ∃E,oW l ji minutes=some (E,0)∧E.Pairwise (· < ·)∧(∀x∈E,0≤x∧x<l.length)∧sm (gC l) E≤ji∧sm (gM l) E≤minutes:=by
 obtain ⟨U,u1,u2⟩:=YN hl
 have hU:∀x∈U,0≤x∧x<l.length:=by
  intro x hx
  obtain ⟨k,hk,rfl⟩:=List.mem_map.1 (u2.mem_iff.1 hx)
  have:=List.mem_range.1 hk
  omega
 have hUl:=u2.length_eq
 rw [List.length_map,List.length_range] at hUl
 obtain ⟨o,q1,q2,q3,q4⟩:=aaJ hL hU (by omega) U.length 0 [] ji minutes (by omega) (by simp) m0 m1 n0 n1
 have q1:aI (fO l U) (ji,minutes,0,[])=some o:=q1
 rw [List.drop_zero] at q2
 have hol:o.length≤12:=by have:=q2.length_le;omega
 obtain ⟨E,e1,e2,e3⟩:=VA o hol
 have hnd:U.Nodup:=u2.nodup_iff.2 (VB _)
 refine ⟨E,?_,aeK e3 (e2.nodup_iff.2 (hnd.sublist q2)),fun x hx=>hU x (q2.mem (e2.mem_iff.1 hx)),by rw [XP e2];exact q3,by rw [XP e2];exact q4⟩
 unfold oW
 rw [XR hv m0 m1 n0 n1 (by omega) (by omega),Option.bind_some,if_neg (by decide),u1,Option.bind_some,q1,Option.bind_some,e1]
 rfl
end
def pw:Nat→Int
 | 0=>1
 | n+1=>2*pw n
theorem VC:∀n,1≤pw n
 | 0=>Int.le_refl _
 | n+1=>by have:=VC n;show 1≤2*pw n;omega
structure Fz (l:List aH) (fr:Nat) (ji minutes:Int) (E:List Int):Prop where
 inc:E.Pairwise (· < ·)
 inn:∀x∈E,(fr:Int)≤x∧x<l.length
 cost:sm (gC l) E≤ji
 time:sm (gM l) E≤minutes
section
variable {l:List aH} (hL:∀x∈l,Lo x) (hl:l.length≤12)
theorem Fz.nil {fr:Nat} {a b:Int} (ha:0≤a) (hb:0≤b):Fz l fr a b []:=⟨List.Pairwise.nil,(fun x hx=>by cases hx),ha,hb⟩
theorem Fz.cons {i fr:Nat} {a b:Int} {E:List Int} (hi:fr≤i) (hil:i<l.length) (h:Fz l (i+1) (a - gC l (i:Int)) (b - gM l (i:Int)) E):Fz l fr a b ((i:Int)::E):=by
 refine ⟨List.pairwise_cons.2 ⟨fun x hx=>by have:=(h.inn x hx).1;omega,h.inc⟩,fun x hx=>?_,?_,?_⟩
 ·rcases List.mem_cons.1 hx with rfl | hx
  ·omega
  ·have:=h.inn x hx;omega
 ·have:=h.cost
  show gC l (i:Int)+sm (gC l) E≤a
  omega
 ·have:=h.time
  show gM l (i:Int)+sm (gM l) E≤b
  omega
theorem Fz.up {i fr:Nat} {a b:Int} {E:List Int} (hi:fr≤i) (h:Fz l i a b E):Fz l fr a b E:=⟨h.inc,fun x hx=>by have:=h.inn x hx;omega,h.cost,h.time⟩
theorem Fz.split {i:Nat} {a b x:Int} {E:List Int} (h:Fz l i a b (x::E)):(x=(i:Int)∧Fz l (i+1) (a - gC l (i:Int)) (b - gM l (i:Int)) E)∨Fz l (i+1) a b (x::E):=by
 obtain ⟨h1,h2,h3,h4⟩:=h
 have h5:=List.pairwise_cons.1 h1
 by_cases c:x=(i:Int)
 ·subst c
  refine .inl ⟨rfl,h5.2,fun y hy=>?_,?_,?_⟩
  ·have:=h5.1 y hy
   have:=h2 y (List.mem_cons_of_mem _ hy)
   omega
  ·have h3:gC l (i:Int)+sm (gC l) E≤a:=h3
   omega
  ·have h4:gM l (i:Int)+sm (gM l) E≤b:=h4
   omega
 ·refine .inr ⟨h1,fun y hy=>?_,h3,h4⟩
  have h6:=h2 x (List.mem_cons_self ..)
  have:=h2 y hy
  rcases List.mem_cons.1 hy with rfl | hy'
  ·omega
  ·have:=h5.1 y hy';omega
def Bst (l:List aH) (fr:Nat) (F:List Int) (sum ji minutes:Int) (nil:Prop) (best:List Int) (most:Int) (best':List Int) (most':Int):Prop:=
 most≤most'∧(∀E,(nil∨E≠[])→Fz l fr ji minutes E→sum+sm (gP l) E≤most')∧((best'=best∧most'=most)∨∃E,Fz l fr ji minutes E∧best'=F++E∧most'=sum+sm (gP l) E)
include hL hl
theorem aaK:∀(m fr:Nat) (F best:List Int) (most left sum ji minutes:Int),fr+m=l.length→F.length≤fr→pw m≤left→left≤20000→0≤ji→ji≤16000000→0≤minutes→minutes≤160000→0≤sum→sum≤9*fr→
 ∃left' best' most',iT ⟨l,left,best,most⟩ F (fr:Int) sum ji minutes=some (false,⟨l,left',best',most'⟩)∧left - pw m≤left'∧left'≤left∧Bst l fr F sum ji minutes True best most best' most':=by
 intro m
 induction m using Nat.strongRecOn with
 | _ m ih=>
  intro fr F best most left sum ji minutes hfr hF hp hlf m0 m1 n0 n1 s0 s1
  have hpw:=VC m
  have lp:∀(k i:Nat) (best:List Int) (most left:Int),i+k=l.length→k≤m→fr≤i→pw k - 1≤left→left≤20000→
   ∃left' best' most',aI (bW SR F minutes ji sum) ((i:Int),l,left,best,most)=some (.inl (l,left',best',most'))∧left - (pw k - 1)≤left'∧left'≤left∧Bst l i F sum ji minutes False best most best' most':=by
   intro k
   induction k with
   | zero=>
    intro i best most left hi hk hfi g1 g2
    refine ⟨left,best,most,bG ?_,by show left - (1 - 1)≤left;omega,Int.le_refl _,Int.le_refl _,fun E hE h=>?_,.inl ⟨rfl,rfl⟩⟩
    ·unfold bW
     simp only
     rw [if_neg (by omega)]
    ·cases E with
     | nil=>exact absurd rfl (hE.resolve_left id)
     | cons x E=>have:=h.inn x (List.mem_cons_self ..);omega
   | succ k ihk=>
    intro i best most left hi hk hfi g1 g2
    have hi':i<l.length:=by omega
    have hpk:=VC k
    have e2:pw (k+1)=2*pw k:=rfl
    obtain ⟨q1,q2⟩:=QA (l:=l) (i:=(i:Int)) (by omega) (by omega)
    obtain ⟨k1,k2,k3,k4,k5,k6⟩:=hL _ q2
    have hin:∀{E},Fz l (i+1) ji minutes E→∀x∈E,0≤x∧x<l.length:=fun h x hx=>by have:=h.inn x hx;omega
    by_cases c:(gL l (i:Int)).wH>ji∨(gL l (i:Int)).iV>minutes
    ·have st:bW SR F minutes ji sum ((i:Int),l,left,best,most)=some (.inl (((i+1:Nat):Int),l,left,best,most)):=by
      unfold bW gG
      simp only
      rw [if_pos (by omega),q1,Option.bind_some,if_pos c,gB (by omega)]
     obtain ⟨l',b',m',r1,r2,r3,r4,r5,r6⟩:=ihk (i+1) best most left (by omega) (by omega) (by omega) (by omega) g2
     refine ⟨l',b',m',by rw [dA st];exact r1,by omega,r3,r4,fun E hE h=>?_,?_⟩
     ·cases E with
      | nil=>exact absurd rfl (hE.resolve_left id)
      | cons x E=>
       rcases h.split with ⟨rfl,h'⟩ | h'
       ·exfalso
        obtain ⟨_,_,z1,_,z2,_⟩:=aaI hL (E:=E) fun x hx=>by have:=h'.inn x hx;omega
        have y1:gC l (i:Int)+sm (gC l) E≤ji:=h.cost
        have y2:gM l (i:Int)+sm (gM l) E≤minutes:=h.time
        have y3:gC l (i:Int)=(gL l (i:Int)).wH:=rfl
        have y4:gM l (i:Int)=(gL l (i:Int)).iV:=rfl
        omega
       ·exact r5 _ hE h'
     ·rcases r6 with r6 | ⟨E,r6,r7⟩
      ·exact .inl r6
      ·exact .inr ⟨E,r6.up (by omega),r7⟩
    ·obtain ⟨l1,b1,mo1,p1,p2,p3,p4,p5,p6⟩:=ih k (by omega) (i+1) (F++[(i:Int)]) best most left (sum+(gL l (i:Int)).Priority) (ji - (gL l (i:Int)).wH) (minutes - (gL l (i:Int)).iV) (by omega) (by rw [List.length_append,List.length_singleton];omega) (by omega) g2 (by omega) (by omega) (by omega) (by omega) (by omega) (by omega)
     have st:bW SR F minutes ji sum ((i:Int),l,left,best,most)=some (.inl (((i+1:Nat):Int),l,l1,b1,mo1)):=by
      have e:SR (⟨l,left,best,most⟩,F++[(i:Int)],((i+1:Nat):Int),sum+(gL l (i:Int)).Priority,ji - (gL l (i:Int)).wH,minutes - (gL l (i:Int)).iV)=some (false,⟨l,l1,b1,mo1⟩):=p1
      unfold bW gG
      simp only
      rw [if_pos (by omega),q1,Option.bind_some,if_neg c,aih (by omega),Option.bind_some,aif (by omega),Option.bind_some,gB (by omega),aV (n:=sum+(gL l (i:Int)).Priority) (by omega) (by omega),aV (n:=ji - (gL l (i:Int)).wH) (by omega) (by omega),aV (n:=minutes - (gL l (i:Int)).iV) (by omega) (by omega),e,Option.bind_some]
      rfl
     obtain ⟨l',b',m',r1,r2,r3,r4,r5,r6⟩:=ihk (i+1) b1 mo1 l1 (by omega) (by omega) (by omega) (by omega) (by omega)
     refine ⟨l',b',m',by rw [dA st];exact r1,by omega,by omega,by omega,fun E hE h=>?_,?_⟩
     ·cases E with
      | nil=>exact absurd rfl (hE.resolve_left id)
      | cons x E=>
       rcases h.split with ⟨rfl,h'⟩ | h'
       ·have:=p5 E (.inl trivial) h'
        have y:sm (gP l) ((i:Int)::E)=(gL l (i:Int)).Priority+sm (gP l) E:=rfl
        omega
       ·exact r5 _ hE h'
     ·rcases r6 with ⟨rfl,rfl⟩ | ⟨E,r6,r7⟩
      ·rcases p6 with p6 | ⟨E,p6,p7,p8⟩
       ·exact .inl p6
       ·refine .inr ⟨(i:Int)::E,Fz.cons (Nat.le_refl _) hi' p6,by rw [p7,List.append_assoc];rfl,?_⟩
        have y:sm (gP l) ((i:Int)::E)=(gL l (i:Int)).Priority+sm (gP l) E:=rfl
        omega
      ·exact .inr ⟨E,r6.up (by omega),r7⟩
  rw [run_eq]
  unfold ig iM
  simp only
  rw [if_neg (show ¬left=0 by omega),aV (n:=left - 1) (by omega) (by omega)]
  have fin:∀(b0:List Int) (mo0:Int),sum≤mo0→most≤mo0→((b0=best∧mo0=most)∨(b0=F∧mo0=sum))→
   ∃left' best' most',((aI (bW SR F minutes ji sum) ((fr:Int),l,left - 1,b0,mo0)).bind fun o=>match o with
    | (.inl (vK,vM,vN,vO))=>(some (false,(⟨vK,vM,vN,vO⟩:aJ)))
    | (.inr r2)=>(some r2))=some (false,⟨l,left',best',most'⟩)∧left - pw m≤left'∧left'≤left∧Bst l fr F sum ji minutes True best most best' most':=by
   intro b0 mo0 h1 h2 h3
   obtain ⟨l',b',m',r1,r2,r3,r4,r5,r6⟩:=lp m fr b0 mo0 (left - 1) hfr (Nat.le_refl _) (Nat.le_refl _) (by omega) (by omega)
   rw [r1]
   refine ⟨l',b',m',rfl,by omega,by omega,by omega,fun E _ h=>?_,?_⟩
   ·cases E with
    | nil=>
     show sum+0≤m'
     omega
    | cons x E=>exact r5 _ (.inr (by intro e;cases e)) h
   ·rcases r6 with ⟨rfl,rfl⟩ | r6
    ·rcases h3 with h3 | ⟨rfl,rfl⟩
     ·exact .inl h3
     ·exact .inr ⟨[],Fz.nil m0 n0,(List.append_nil _).symm,by show _=_+0;omega⟩
    ·exact .inr r6
  by_cases cs:sum>most
  ·rw [if_pos cs]
   exact fin F sum (Int.le_refl _) (by omega) (.inr ⟨rfl,rfl⟩)
  ·rw [if_neg cs]
   exact fin best most (by omega) (Int.le_refl _) (.inl ⟨rfl,rfl⟩)
theorem acN (h6:l.length≤6) (hv:eG l=some true) {ji minutes:Int} (m0:0≤ji) (m1:ji≤16000000) (n0:0≤minutes) (n1:minutes≤160000):
 ∃E,rf l ji minutes 1000=some (E,sm (gP l) E,0)∧Fz l 0 ji minutes E∧∀E',Fz l 0 ji minutes E'→sm (gP l) E'≤sm (gP l) E:=by
 have hp:pw l.length≤1000:=by
  have hc:l.length=0∨l.length=1∨l.length=2∨l.length=3∨l.length=4∨l.length=5∨l.length=6:=by omega
  rcases hc with h | h | h | h | h | h | h<;>rw [h]<;>decide
 obtain ⟨l',b',m',r1,r2,r3,r4,r5,r6⟩:=aaK hL hl l.length 0 [] [] 0 1000 0 ji minutes (by omega) (by simp) hp (by omega) m0 m1 n0 n1 (by omega) (by omega)
 have r1:iT ⟨l,1000,[],0⟩ [] 0 0 ji minutes=_:=r1
 have hbm:Fz l 0 ji minutes b'∧m'=sm (gP l) b':=by
  rcases r6 with ⟨rfl,rfl⟩ | ⟨E,q1,q2,q3⟩
  ·exact ⟨Fz.nil m0 n0,rfl⟩
  ·rw [List.nil_append] at q2
   subst q2
   exact ⟨q1,by omega⟩
 refine ⟨b',?_,hbm.1,fun E' h=>?_⟩
 ·unfold rf
  rw [XR hv m0 m1 n0 n1 (by omega) (by omega),Option.bind_some,if_neg (by decide),r1,←hbm.2]
  rfl
 ·have:=r5 E' (.inl trivial) h
  omega
end
theorem O3:∀(x y z:List UInt8),Op.bytesLess x y=true→Op.bytesLess y z=true→Op.bytesLess x z=true
 | x,[],z,h,_=>by cases x<;>simp [Op.bytesLess] at h
 | x,b::y,[],_,h=>by simp [Op.bytesLess] at h
 | [],b::y,c::z,_,_=>rfl
 | a::x,b::y,c::z,h1,h2=>by
  simp only [Op.bytesLess,Bool.or_eq_true,Bool.and_eq_true,decide_eq_true_eq,beq_iff_eq] at h1 h2 ⊢
  rcases h1 with h1 | ⟨rfl,h1⟩
  ·rcases h2 with h2 | ⟨rfl,h2⟩
   ·left
    rw [UInt8.lt_iff_toNat_lt] at h1 h2 ⊢
    omega
   ·exact .inl h1
  ·rcases h2 with h2 | ⟨rfl,h2⟩
   ·exact .inl h2
   ·exact .inr ⟨rfl,O3 x y z h1 h2⟩
theorem aaL:∀(x y:List UInt8),Op.bytesLess x y=false→x≠y→Op.bytesLess y x=true
 | [],[],_,h=>absurd rfl h
 | a::x,[],_,_=>rfl
 | [],b::y,h,_=>by simp [Op.bytesLess] at h
 | a::x,b::y,h,hne=>by
  simp only [Op.bytesLess,Bool.or_eq_false_iff,Bool.and_eq_false_iff,decide_eq_false_iff_not,beq_eq_false_iff_ne] at h
  simp only [Op.bytesLess,Bool.or_eq_true,Bool.and_eq_true,decide_eq_true_eq,beq_iff_eq]
  by_cases c:a=b
  ·subst c
   exact .inr ⟨rfl,aaL x y (h.2.resolve_left fun h=>h rfl) fun e=>hne (by rw [e])⟩
  ·left
   have h1:=h.1
   rw [UInt8.lt_iff_toNat_lt] at h1 ⊢
   have:a.toNat≠b.toNat:=fun e=>c (UInt8.toNat_inj.1 e)
   omega
abbrev nl (a b:aH):Prop:=Op.bytesLess a.Name.toList b.Name.toList=true
structure Vl (l:List aH):Prop where
 len:l.length≤16
 ok:∀x∈l,jQ x=some true
 inc:l.Pairwise nl
theorem adE {l:List aH} (h:Vl l):eG l=some true:=by
 have hl:=h.len
 unfold eG
 have e:aI (fA l) ((0:Nat):Int)=some (.inl ()):=by
  refine ER (fun t:Nat=>(t:Int)) l.length (fun t ht=>?_) ?_
  ·unfold fA
   rw [if_pos (by omega),iK ht,Option.bind_some,h.ok _ (List.getElem_mem ht),Option.bind_some,if_pos rfl]
   by_cases c:(t:Int) >0
   ·rw [if_pos c,KD (by omega) (by omega),iK (show t - 1<l.length by omega),Option.bind_some]
    have:=List.pairwise_iff_getElem.1 h.inc (t - 1) t (by omega) ht (by omega)
    rw [this,gB (by omega)]
    rfl
   ·rw [if_neg c,gB (by omega)]
    rfl
  ·unfold fA
   rw [if_neg (by omega)]
 have e:aI (fA l) 0=_:=e
 rw [e]
 show some (decide ((l.length:Int)≤16))=_
 rw [decide_eq_true (by omega)]
theorem aeL:Vl []:=⟨by simp,by simp,List.Pairwise.nil⟩
theorem XT {a b:ByteArray} (h:a≠b):a.toList≠b.toList:=fun e=>h (Go.Sim.uX.1 (beq_iff_eq.2 e))
theorem at_loop {l:List aH} (hl:l.length≤16) (x:aH) (hne:∀y∈l,y.Name≠x.Name):∀n,n≤l.length→∃k:Nat,aI (ny l x) (n:Int)=some (k:Int)∧k≤n∧(∀j (hj:j<l.length),k≤j→j<n→nl x l[j])∧∀(hk:0<k) (hkl:k - 1<l.length),nl l[k - 1] x:=by
 intro n
 induction n with
 | zero=>
  intro _
  refine ⟨0,bG ?_,Nat.le_refl _,fun j hj h1 h2=>by omega,fun h=>by omega⟩
  unfold ny
  rw [if_neg (by omega)]
  rfl
 | succ n ih=>
  intro hn
  have hn':n<l.length:=by omega
  have hw:w64 (((n+1:Nat):Int) - 1)=(n:Int):=by rw [aV (by omega) (by omega)];omega
  by_cases c:(Op.bytesLess l[n].Name.toList x.Name.toList||l[n].Name.toList==x.Name.toList)=true
  ·refine ⟨n+1,bG ?_,Nat.le_refl _,fun j hj h1 h2=>by omega,fun _ _=>?_⟩
   ·unfold ny
    rw [if_pos (by omega),hw,iK hn',Option.bind_some,c]
    rfl
   ·have hx:(l[n].Name.toList==x.Name.toList)=false:=beq_eq_false_iff_ne.2 (XT (hne _ (List.getElem_mem hn')))
    rw [hx,Bool.or_false] at c
    exact c
  ·obtain ⟨k,k1,k2,k3,k4⟩:=ih (by omega)
   rw [Bool.not_eq_true] at c
   have st:ny l x ((n+1:Nat):Int)=some (.inl (n:Int)):=by
    unfold ny
    rw [if_pos (by omega),hw,iK hn',Option.bind_some,c]
    rfl
   refine ⟨k,by rw [dA st];exact k1,by omega,fun j hj h1 h2=>?_,k4⟩
   by_cases cj:j=n
   ·subst cj
    rw [Bool.or_eq_false_iff] at c
    exact aaL _ _ c.1 (XT (hne _ (List.getElem_mem hn')))
   ·exact k3 j hj h1 (by omega)
theorem ail {α:Type} {l:List α} {t:Nat} (h:t≤l.length):slc l (t:Int) (l.length:Int)=some (l.drop t):=by
 unfold slc
 rw [if_pos ⟨by omega,by omega,by omega⟩]
 simp
theorem aim {α:Type} {l:List α} {t:Nat} (h:t≤l.length):slc l 0 (t:Int)=some (l.take t):=by
 unfold slc
 rw [if_pos ⟨by omega,by omega,by omega⟩]
 simp
theorem aeM {l:List aH} (h:Vl l) (x:aH):∃n c,yu l x=some (n,c)∧(c=0→Vl n∧n.length=l.length+1):=by
 have hl:=h.len
 obtain ⟨v,v1,_⟩:=Qz x
 unfold yu
 rw [ok_eq,adE h,Option.bind_some,if_pos rfl,XN,v1]
 cases v with
 | false=>exact ⟨_,_,rfl,fun h=>by cases h⟩
 | true=>
 simp only [Option.bind_some,Bool.not_true,Bool.false_eq_true,if_false]
 unfold AP
 rcases KC (f:=tY l x.Name) l (fun y=>decide (y.Name=x.Name)) (fun k=>(k:Int)) (by omega) (fun i hi=>by
  unfold tY
  rw [if_pos (by omega),iK hi,Option.bind_some]
  by_cases c:l[i].Name=x.Name
  ·rw [if_pos c,if_pos (decide_eq_true c)]
  ·rw [if_neg c,if_neg (by simpa using c)]) (by unfold tY;rw [if_neg (by omega)]) with ⟨a,b⟩ | ⟨k,hk,a,_,b⟩
 ·rw [b]
  simp only [Option.bind_some]
  rw [if_neg (by omega)]
  by_cases c:(l.length:Int)=16
  ·rw [if_pos c]
   exact ⟨_,_,rfl,fun h=>by cases h⟩
  rw [if_neg c]
  have hne:∀y∈l,y.Name≠x.Name:=fun y hy=>by simpa using a y hy
  obtain ⟨k,k1,k2,k3,k4⟩:=at_loop hl x hne l.length (Nat.le_refl _)
  rw [k1,Option.bind_some,aim k2,Option.bind_some,II (by rw [List.length_take,List.length_nil];omega),Option.bind_some,List.nil_append,II (by rw [List.length_take,List.length_singleton];omega),Option.bind_some,ail k2,Option.bind_some,II (by rw [List.length_append,List.length_take,List.length_singleton,List.length_drop];omega),Option.bind_some]
  refine ⟨_,_,rfl,fun _=>⟨⟨by rw [List.length_append,List.length_append,List.length_take,List.length_singleton,List.length_drop];omega,fun y hy=>?_,?_⟩,by rw [List.length_append,List.length_append,List.length_take,List.length_singleton,List.length_drop];omega⟩⟩
  ·rcases List.mem_append.1 hy with hy | hy
   ·rcases List.mem_append.1 hy with hy | hy
    ·exact h.ok y (List.mem_of_mem_take hy)
    ·rw [List.mem_singleton.1 hy];exact v1
   ·exact h.ok y (List.mem_of_mem_drop hy)
  ·have hA:∀y∈l.take k,nl y x:=by
    intro y hy
    obtain ⟨j,hj,rfl⟩:=List.mem_take_iff_getElem.1 hy
    have hjk:j<k:=by omega
    have hk0:=k4 (by omega) (by omega)
    by_cases cj:j=k - 1
    ·subst cj;exact hk0
    ·exact O3 _ _ _ (List.pairwise_iff_getElem.1 h.inc j (k - 1) (by omega) (by omega) (by omega)) hk0
   have hB:∀y∈l.drop k,nl x y:=by
    intro y hy
    obtain ⟨j,hj,rfl⟩:=List.mem_iff_getElem.1 hy
    rw [List.length_drop] at hj
    rw [List.getElem_drop]
    exact k3 (k+j) (by omega) (by omega) (by omega)
   rw [List.pairwise_append,List.pairwise_append]
   refine ⟨⟨h.inc.sublist (List.take_sublist _ _),List.pairwise_singleton _ _,fun a ha b hb=>?_⟩,h.inc.sublist (List.drop_sublist _ _),fun a ha b hb=>?_⟩
   ·rw [List.mem_singleton.1 hb];exact hA a ha
   ·rcases List.mem_append.1 ha with ha | ha
    ·exact O3 _ _ _ (hA a ha) (hB b hb)
    ·rw [List.mem_singleton.1 ha];exact hB b hb
 ·rw [b]
  simp only [Option.bind_some]
  rw [if_pos (by omega)]
  exact ⟨_,_,rfl,fun h=>by cases h⟩
theorem UD {c:List Int} (hc:∀x∈c,0≤x∧x≤255) {n:Int} (hn:n≤800000000) {s:aB} (h:Sr c n s):Ev (tV s) (fun r=>Sr c (n+22) r.2):=by
 unfold tV iO
 refine Ev.bind (acJ hc h (by omega) _ (by simp)) fun x6 h=>?_
 refine Ev.bind (by obtain ⟨v,s',e,_,h'⟩:=O1 hc (by omega) h;exact (Ev.eq e).mono fun r (hr:r=(v,s'))=>(show Sr c (n+2+8) r.2 by rw [hr];exact h')) fun x8 h=>?_
 refine Ev.bind (KE hc h (by omega) _) fun x11 h=>?_
 refine Ev.bind (KE hc h.2.2 (by omega) _) fun x15 h=>?_
 refine Ev.bind (KE hc h.2.2 (by omega) _) fun x19 h=>?_
 refine Ev.bind (KE hc h.2.2 (by omega) _) fun x23 h=>?_
 refine Ev.bind (KE hc h.2.2 (by omega) _) fun x27 h=>?_
 refine Ev.ite (fun _=>Ev.bind (KF hc h.2.2 (by omega) _ (by simp)) fun r h=>Ev.ret (h.2.mono (by omega))) fun _=>?_
 refine Ev.ite (fun _=>Ev.bind (KF hc h.2.2 (by omega) _ (by simp)) fun r h=>Ev.ret (h.2.mono (by omega))) fun _=>?_
 refine Ev.ite (fun _=>Ev.bind (KF hc h.2.2 (by omega) _ (by simp)) fun r h=>Ev.ret (h.2.mono (by omega))) fun _=>?_
 refine Ev.ite (fun _=>Ev.bind (KF hc h.2.2 (by omega) _ (by simp)) fun r h=>Ev.ret (h.2.mono (by omega))) fun _=>?_
 exact Ev.ret (h.2.2.mono (by omega))
theorem YP {c:List Int} (hc:∀x∈c,0≤x∧x≤255):∃l,wR c=some l∧Vl l∧l.length≤6:=by
 obtain ⟨s,h1,h2⟩:=XM c
 unfold wR AQ
 rw [h1,Option.bind_some]
 obtain ⟨k,s1,e1,k0,k1,h3⟩:=qE hc (by omega) h2 7
 have k1:=k1 (by omega)
 rw [e1,Option.bind_some]
 have lp:∀(m:Nat) (s:aB) (n:Int) (out:List aH),out.length+m≤6→n≤100* (10 - m)→Sr c n s→Vl out→
  ∃a b e out',aI lq ((m:Int),s.code,s.at_,s.seed,out)=some (a,b,e,out')∧Vl out'∧out'.length≤6:=by
  intro m
  induction m with
  | zero=>
   intro s n out hm _ _ h
   refine ⟨s.code,s.at_,s.seed,out,bG ?_,h,by omega⟩
   unfold lq
   simp only
   rw [if_neg (by omega)]
  | succ m ih=>
   intro s n out hm hn hs h
   obtain ⟨⟨x,s'⟩,e,hs'⟩:=UD hc (by omega) hs
   obtain ⟨n2,c2,a1,a2⟩:=aeM h x
   have hw:w64 (((m+1:Nat):Int) - 1)=(m:Int):=by rw [aV (by omega) (by omega)];omega
   by_cases cc:c2=0
   ·obtain ⟨a3,a4⟩:=a2 cc
    have st:lq (((m+1:Nat):Int),s.code,s.at_,s.seed,out)=some (.inl ((m:Int),s'.code,s'.at_,s'.seed,n2)):=by
     unfold lq pO
     simp only
     rw [if_pos (by omega),e,Option.bind_some,a1,Option.bind_some,if_pos cc,hw]
    rw [dA st]
    exact ih s' (n+22) n2 (by omega) (by omega) hs' a3
   ·have st:lq (((m+1:Nat):Int),s.code,s.at_,s.seed,out)=some (.inl ((m:Int),s'.code,s'.at_,s'.seed,out)):=by
     unfold lq pO
     simp only
     rw [if_pos (by omega),e,Option.bind_some,a1,Option.bind_some,if_neg cc,hw]
    rw [dA st]
    exact ih s' (n+22) out (by omega) (by omega) hs' h
 obtain ⟨kk,rfl⟩:∃kk:Nat,k=(kk:Int):=⟨k.toNat,by omega⟩
 obtain ⟨a,b,e',out',q1,q2,q3⟩:=lp kk s1 (0+2) [] (by simp only [List.length_nil];omega) (by omega) h3 aeL
 rw [q1]
 exact ⟨out',rfl,q2,q3⟩
theorem acO (b:cO) (w l:Int):∃v,mJ b w l=some v:=by
 unfold mJ
 simp only [rG,Option.bind_some]
 cases decide (0≤b.X∧b.X≤w) with
 | false=>exact ⟨_,rfl⟩
 | true=>
  cases decide (0≤b.Y∧b.Y≤l) with
  | false=>exact ⟨_,rfl⟩
  | true=>cases decide (1≤b.Width∧b.Width≤w64 (w - b.X))<;>exact ⟨_,rfl⟩
noncomputable def SX (w l:Int) (b:cO):Bool:=(mJ b w l).getD false
theorem aaM (b:cO) (w l:Int):mJ b w l=some (SX w l b):=by
 obtain ⟨v,h⟩:=acO b w l
 unfold SX
 rw [h];rfl
theorem adF (b:cO) (w l:Int):Dz b w l=some (SX w l b):=aaM b w l
theorem acP (l:dH) (hb:l.aG.length≤1048576):∃v,rV l=some v∧o7 l=some v:=by
 obtain ⟨n1,p1,q1⟩:=MZ l.Id
 obtain ⟨n2,p2,q2⟩:=MZ l.Fb
 have hs:=OZ (f:=mM l) l.aG (SX l.Width l.Length) hb (fun i hi=>by
  unfold mM
  rw [if_pos (by omega),iK hi,Option.bind_some,adF,Option.bind_some]) (by unfold mM;rw [if_neg (by omega)])
 have hi:aN l.aG (fun a0=>jL a0 l.Id l.Fb l.Number l.dX.gm l.dX.eF l.dX.bC l.Width l.Length l.aG)=some (!l.aG.all (SX l.Width l.Length)):=by
  unfold aN di
  rcases YK (f:=aW (fun a0=>jL a0 l.Id l.Fb l.Number l.dX.gm l.dX.eF l.dX.bC l.Width l.Length l.aG) l.aG) l.aG (SX l.Width l.Length) hb (fun i hi=>by
   unfold aW jL
   rw [if_pos (by omega),iK hi,Option.bind_some]
   simp only [aaM,Option.bind_some]) (by unfold aW;rw [if_neg (by omega)]) with ⟨a,b⟩ | ⟨a,k,b⟩
  ·rw [b,a];rfl
  ·rw [b,a]
   show some (decide ((k:Int)≥0))=_
   rw [decide_eq_true (by omega)]
   rfl
 unfold rV o7
 simp only [p1,q1,p2,q2,hs,hi,UA,Qy,XJ,rG,Option.bind_some]
 cases n1 with
 | false=>exact ⟨false,rfl,rfl⟩
 | true=>
 cases n2 with
 | false=>exact ⟨false,rfl,rfl⟩
 | true=>
 cases decide (0≤l.Number∧l.Number≤999) with
 | false=>exact ⟨false,rfl,rfl⟩
 | true=>
 cases O0 l.dX with
 | false=>exact ⟨false,rfl,rfl⟩
 | true=>
 cases decide (10≤l.Width∧l.Width≤20000) with
 | false=>exact ⟨false,rfl,rfl⟩
 | true=>
 cases decide (10≤l.Length∧l.Length≤20000) with
 | false=>exact ⟨false,rfl,rfl⟩
 | true=>
 cases decide ((l.aG.length:Int) >6) with
 | true=>exact ⟨false,rfl,rfl⟩
 | false=>cases l.aG.all (SX l.Width l.Length)<;>exact ⟨_,rfl,rfl⟩
theorem acQ {c:List Int} (hc:∀x∈c,0≤x∧x≤255) {n:Int} (hn:n≤999999999) {s:aB} (h:Sr c n s) (l:List ByteArray) (hl:1≤l.length):∃v s',jm s l=some (v,s')∧v∈l∧Sr c (n+2) s':=by
 obtain ⟨v,s',e,v1,v2,h'⟩:=qE hc hn h (l.length:Int)
 have v3:=v2 (by omega)
 obtain ⟨i,hi⟩:∃i:Nat,v=(i:Int):=⟨v.toNat,by omega⟩
 subst hi
 have hlt:i<l.length:=by omega
 unfold jm
 rw [e]
 simp only [Option.bind_some,iK hlt]
 exact ⟨_,_,rfl,List.getElem_mem hlt,h'⟩
structure acR (W L:Int) (b:cO):Prop where
 x:0≤b.X
 y:0≤b.Y
 w:1≤b.Width
 l:1≤b.Length
 xw:b.X+b.Width≤W
 yl:b.Y+b.Length≤L
theorem VD {c:List Int} (hc:∀x∈c,0≤x∧x≤255) {n:Int} (hn:n≤900000000) {s:aB} (h:Sr c n s) {W L:Int} (w0:100≤W) (w1:W≤1000) (l0:100≤L) (l1:L≤1000):
 ∃b s',uj s W L=some (b,s')∧acR W L b∧Sr c (n+8) s':=by
 unfold uj
 rw [aV (n:=W - 2) (by omega) (by omega),aV (n:=L - 2) (by omega) (by omega)]
 obtain ⟨x,s1,e1,x0,x1,h1⟩:=qE hc (by omega) h (W - 2)
 have x1:=x1 (by omega)
 obtain ⟨y,s2,e2,y0,y1,h2⟩:=qE hc (by omega) h1 (L - 2)
 have y1:=y1 (by omega)
 rw [e1,Option.bind_some,e2,Option.bind_some]
 simp only
 rw [aV (n:=W - x) (by omega) (by omega),aV (n:=L - y) (by omega) (by omega),XK,Option.bind_some]
 have m1:3≤min2 60 (W - x)∧min2 60 (W - x)≤W - x∧min2 60 (W - x)≤60:=by rcases qM 60 (W - x) with q | q<;>omega
 have m2:3≤min2 60 (L - y)∧min2 60 (L - y)≤L - y∧min2 60 (L - y)≤60:=by rcases qM 60 (L - y) with q | q<;>omega
 obtain ⟨u,s3,e3,u0,u1,h3⟩:=qE hc (by omega) h2 (min2 60 (W - x))
 have u1:=u1 (by omega)
 obtain ⟨v,s4,e4,v0,v1,h4⟩:=qE hc (by omega) h3 (min2 60 (L - y))
 have v1:=v1 (by omega)
 rw [e3,Option.bind_some,XK,Option.bind_some,e4,Option.bind_some]
 simp only
 rw [aV (n:=1+u) (by omega) (by omega),aV (n:=1+v) (by omega) (by omega)]
 exact ⟨_,_,rfl,⟨x0,y0,by show 1≤1+u;omega,by show 1≤1+v;omega,by show x+(1+u)≤W;omega,by show y+(1+v)≤L;omega⟩,h4.mono (by omega)⟩
structure VE (x:dH):Prop where
 id:iF x.Id=some true
 fl:iF x.Fb=some true
 num:0≤x.Number∧x.Number≤999
 ven:O0 x.dX=true
 wd:100≤x.Width∧x.Width≤1000
 len:100≤x.Length∧x.Length≤1000
 dl:x.aG.length≤3
 bx:∀b∈x.aG,acR x.Width x.Length b
theorem SY {x:dH} (h:VE x):o7 x=some true∧rV x=some true:=by
 have hdl:=h.dl
 have hs:=OZ (f:=mM x) x.aG (SX x.Width x.Length) (by omega) (fun i hi=>by
  unfold mM
  rw [if_pos (by omega),iK hi,Option.bind_some,adF,Option.bind_some]) (by unfold mM;rw [if_neg (by omega)])
 have hb:x.aG.all (SX x.Width x.Length)=true:=by
  rw [List.all_eq_true]
  intro b hb
  obtain ⟨h1,h2,h3,h4,h5,h6⟩:=h.bx b hb
  have e:=aaM b x.Width x.Length
  obtain ⟨w0,w1⟩:=h.wd
  obtain ⟨l0,l1⟩:=h.len
  unfold mJ at e
  simp only [rG,Option.bind_some] at e
  rw [aV (n:=x.Width - b.X) (by omega) (by omega),aV (n:=x.Length - b.Y) (by omega) (by omega),decide_eq_true (show 0≤b.X∧b.X≤x.Width by omega),decide_eq_true (show 0≤b.Y∧b.Y≤x.Length by omega),decide_eq_true (show 1≤b.Width∧b.Width≤x.Width - b.X by omega),decide_eq_true (show 1≤b.Length∧b.Length≤x.Length - b.Y by omega)] at e
  simpa using e.symm
 have e1:rV x=some true:=by
  unfold rV
  rw [←nm,h.id,Option.bind_some,if_pos rfl,←nm,h.fl]
  simp only [XJ,UA,h.ven,Option.bind_some,if_true]
  obtain ⟨n0,n1⟩:=h.num
  obtain ⟨w0,w1⟩:=h.wd
  obtain ⟨l0,l1⟩:=h.len
  rw [decide_eq_true (show 0≤x.Number∧x.Number≤999 by omega),decide_eq_true (show 10≤x.Width∧x.Width≤20000 by omega),decide_eq_true (show 10≤x.Length∧x.Length≤20000 by omega),decide_eq_false (show ¬(x.aG.length:Int) >6 by omega),hs,hb]
  rfl
 obtain ⟨v,v1,v2⟩:=acP x (by omega)
 rw [e1] at v1
 exact ⟨by rw [v2];exact v1.symm,e1⟩
def idL:List ByteArray:=[⟨#[97]⟩,⟨#[98]⟩,⟨#[99]⟩,⟨#[100]⟩]
theorem XU {b:UInt8} (h:97≤b.toNat) (h2:b.toNat≤122):iF ⟨#[b]⟩=some true:=by
 have hb:bt (⟨#[b]⟩:ByteArray) 0=some (b.toNat:Int):=rfl
 have hs:(⟨#[b]⟩:ByteArray).size=1:=rfl
 unfold iF
 rw [hs,hb]
 have e:aI (fK ⟨#[b]⟩) 0=some (.inl ()):=by
  have s0:fK ⟨#[b]⟩ 0=some (.inl 1):=by
   unfold fK
   rw [hs,hb,if_pos (by omega)]
   simp only [Option.bind_some]
   rw [if_neg (by omega),if_neg (by omega)]
   rfl
  rw [dA s0]
  refine bG ?_
  unfold fK
  rw [hs,if_neg (by omega)]
 rw [e]
 simp only [Option.bind_some]
 rw [if_neg (by omega),if_neg (by omega),if_neg (by omega),Option.bind_some,decide_eq_false (by omega)]
 rfl
theorem name2 {b d:UInt8} (h:97≤b.toNat) (h2:b.toNat≤122) (h3:48≤d.toNat) (h4:d.toNat≤57):iF ⟨#[b,d]⟩=some true:=by
 have hb:bt (⟨#[b,d]⟩:ByteArray) 0=some (b.toNat:Int):=rfl
 have hd:bt (⟨#[b,d]⟩:ByteArray) 1=some (d.toNat:Int):=rfl
 have hs:(⟨#[b,d]⟩:ByteArray).size=2:=rfl
 unfold iF
 rw [hs,hb]
 have e:aI (fK ⟨#[b,d]⟩) 0=some (.inl ()):=by
  have s0:fK ⟨#[b,d]⟩ 0=some (.inl 1):=by
   unfold fK
   rw [hs,hb,if_pos (by omega)]
   simp only [Option.bind_some]
   rw [if_neg (by omega),if_neg (by omega)]
   rfl
  have s1:fK ⟨#[b,d]⟩ 1=some (.inl 2):=by
   unfold fK
   rw [hs,hd,if_pos (by omega)]
   simp only [Option.bind_some]
   rw [if_pos (by omega),if_neg (by omega),decide_eq_false (by omega)]
   rfl
  rw [dA s0,dA s1]
  refine bG ?_
  unfold fK
  rw [hs,if_neg (by omega)]
 rw [e]
 simp only [Option.bind_some]
 rw [if_neg (by omega),if_neg (by omega),if_neg (by omega),Option.bind_some,decide_eq_false (by omega)]
 rfl
theorem UE {c:List Int} (hc:∀x∈c,0≤x∧x≤255) {n:Int} (hn:n≤800000000) {s:aB} (h:Sr c n s) {id:ByteArray} (hid:iF id=some true):
 ∃x s',uk s id=some (x,s')∧VE x∧x.Id=id∧Sr c (n+100) s':=by
 unfold uk
 obtain ⟨f,s1,e1,f1,h1⟩:=acQ hc (by omega) h [(⟨#[102,49]⟩:ByteArray),(⟨#[102,50]⟩:ByteArray)] (by simp)
 obtain ⟨k,s2,e2,k0,k1,h2⟩:=qE hc (by omega) h1 20
 have k1:=k1 (by omega)
 obtain ⟨v,s3,e3,v1,h3⟩:=O1 hc (by omega) h2
 obtain ⟨w,s4,e4,w0,w1,h4⟩:=qE hc (by omega) h3 900
 have w1:=w1 (by omega)
 obtain ⟨l,s5,e5,l0,l1,h5⟩:=qE hc (by omega) h4 900
 have l1:=l1 (by omega)
 obtain ⟨q,s6,e6,q0,q1,h6⟩:=qE hc (by omega) h5 4
 have q1:=q1 (by omega)
 rw [e1,Option.bind_some,e2,Option.bind_some,e3,Option.bind_some,e4,Option.bind_some,e5,Option.bind_some,e6,Option.bind_some]
 simp only
 have lp:∀(m:Nat) (s:aB) (n':Int) (out:List cO),out.length+m≤3→n'≤n+20+8* (4 - m)→Sr c n' s→(∀b∈out,acR (100+w) (100+l) b)→
  ∃(s':aB) (out':List cO),aI (lU (w,s4) (l,s5)) ((m:Int),s.code,s.at_,s.seed,out)=some (s'.code,s'.at_,s'.seed,out')∧(∀b∈out',acR (100+w) (100+l) b)∧out'.length≤3∧Sr c (n+52) s':=by
  intro m
  induction m with
  | zero=>
   intro s n' out hm hn' hs h
   refine ⟨s,out,bG ?_,h,by omega,hs.mono (by omega)⟩
   unfold lU
   simp only
   rw [if_neg (by omega)]
  | succ m ih=>
   intro s n' out hm hn' hs h
   obtain ⟨b,s',e,hb,hs'⟩:=VD hc (by omega) hs (W:=100+w) (L:=100+l) (by omega) (by omega) (by omega) (by omega)
   have st:lU (w,s4) (l,s5) (((m+1:Nat):Int),s.code,s.at_,s.seed,out)=some (.inl ((m:Int),s'.code,s'.at_,s'.seed,out++[b])):=by
    unfold lU
    simp only
    rw [if_pos (by omega),aV (n:=100+w) (by omega) (by omega),aV (n:=100+l) (by omega) (by omega),e,Option.bind_some,II (by rw [List.length_singleton];omega),Option.bind_some,aV (n:=((m+1:Nat):Int) - 1) (by omega) (by omega)]
    rw [show ((m+1:Nat):Int) - 1=(m:Int) by omega]
   rw [dA st]
   exact ih s' (n'+8) (out++[b]) (by rw [List.length_append,List.length_singleton];omega) (by omega) hs' fun y hy=>by
    rcases List.mem_append.1 hy with hy | hy
    ·exact h y hy
    ·rw [List.mem_singleton.1 hy];exact hb
 obtain ⟨qq,rfl⟩:∃qq:Nat,q=(qq:Int):=⟨q.toNat,by omega⟩
 obtain ⟨s',out',p1,p2,p3,p4⟩:=lp qq s6 (n+2+2+8+2+2+2) [] (by simp only [List.length_nil];omega) (by omega) h6 (by simp)
 rw [p1]
 simp only [Option.bind_some]
 rw [aV (n:=100+w) (by omega) (by omega),aV (n:=100+l) (by omega) (by omega)]
 refine ⟨_,s',rfl,⟨hid,?_,⟨k0,by show k≤999;omega⟩,v1,⟨by show 100≤100+w;omega,by show 100+w≤1000;omega⟩,⟨by show 100≤100+l;omega,by show 100+l≤1000;omega⟩,p3,p2⟩,rfl,p4.mono (by omega)⟩
 simp only [List.mem_cons,List.not_mem_nil,or_false] at f1
 rcases f1 with rfl | rfl
 ·exact name2 (b:=102) (d:=49) (by decide) (by decide) (by decide) (by decide)
 ·exact name2 (b:=102) (d:=50) (by decide) (by decide) (by decide) (by decide)
theorem YQ {c:List Int} (hc:∀x∈c,0≤x∧x≤255):∃Ls,wY c=some Ls∧ru Ls=some true∧(∀x∈Ls,VE x)∧Ls.length≤4:=by
 obtain ⟨s,h1,h2⟩:=XM c
 unfold wY AZ
 rw [h1,Option.bind_some]
 obtain ⟨k,s1,e1,k0,k1,h3⟩:=qE hc (by omega) h2 5
 have k1:=k1 (by omega)
 rw [e1,Option.bind_some]
 have alJ:idL.length=4:=rfl
 have ain:∀i (hi:i<idL.length),iF idL[i]=some true:=by
  intro i hi
  have hc:i=0∨i=1∨i=2∨i=3:=by omega
  rcases hc with rfl | rfl | rfl | rfl
  ·exact XU (b:=97) (by decide) (by decide)
  ·exact XU (b:=98) (by decide) (by decide)
  ·exact XU (b:=99) (by decide) (by decide)
  ·exact XU (b:=100) (by decide) (by decide)
 have lp:∀(m i:Nat) (s:aB) (n:Int) (out:List dH),(i:Int)+m=k→n≤1000+100*i→Sr c n s→out.length=i→(∀x∈out,VE x)→(∀j (hj:j<out.length) (hj2:j<idL.length),out[j].Id=idL[j])→
  ∃(s':aB) (out':List dH),aI (nG (k,s1)) ((i:Int),s.code,s.at_,s.seed,out)=some (s'.code,s'.at_,s'.seed,out')∧(∀x∈out',VE x)∧out'.length≤4∧∀j (hj:j<out'.length) (hj2:j<idL.length),out'[j].Id=idL[j]:=by
  intro m
  induction m with
  | zero=>
   intro i s n out hi hn hs ho h1 h2
   refine ⟨s,out,bG ?_,h1,by omega,h2⟩
   unfold nG
   simp only
   rw [if_neg (by omega)]
  | succ m ih=>
   intro i s n out hi hn hs ho h1 h2
   have hi4:i<idL.length:=by omega
   obtain ⟨x,s',e,hx,hid,hs'⟩:=UE hc (by omega) hs (ain i hi4)
   have st:nG (k,s1) ((i:Int),s.code,s.at_,s.seed,out)=some (.inl (((i+1:Nat):Int),s'.code,s'.at_,s'.seed,out++[x])):=by
    have hr:rd ([(⟨#[97]⟩:ByteArray),(⟨#[98]⟩:ByteArray),(⟨#[99]⟩:ByteArray),(⟨#[100]⟩:ByteArray)]:List ByteArray) (i:Int)=some idL[i]:=iK hi4
    unfold nG
    simp only
    rw [if_pos (by omega),hr,Option.bind_some,e,Option.bind_some,II (by rw [List.length_singleton];omega),Option.bind_some,gB (by omega)]
   rw [dA st]
   refine ih (i+1) s' (n+100) (out++[x]) (by omega) (by omega) hs' (by rw [List.length_append,List.length_singleton];omega) (fun y hy=>?_) fun j hj hj2=>?_
   ·rcases List.mem_append.1 hy with hy | hy
    ·exact h1 y hy
    ·rw [List.mem_singleton.1 hy];exact hx
   ·by_cases cj:j<out.length
    ·rw [List.getElem_append_left cj]
     exact h2 j cj hj2
    ·have:j=i:=by rw [List.length_append,List.length_singleton] at hj;omega
     subst this
     rw [List.getElem_append_right (by omega)]
     simp [ho,hid]
 obtain ⟨kk,hkk⟩:∃kk:Nat,k=(kk:Int):=⟨k.toNat,by omega⟩
 obtain ⟨s',out',p1,p2,p3,p4⟩:=lp kk 0 s1 (0+2) [] (by omega) (by omega) h3 rfl (by simp) (by simp)
 have p1:aI (nG (k,s1)) (0,s1.code,s1.at_,s1.seed,[])=_:=p1
 simp only
 rw [p1]
 refine ⟨out',rfl,?_,p2,p3⟩
 unfold ru
 have e:aI (kZ out') ((0:Nat):Int)=some (.inl ()):=by
  refine ER (fun t:Nat=>(t:Int)) out'.length (fun t ht=>?_) ?_
  ·unfold kZ
   rw [if_pos (by omega),iK ht,Option.bind_some,(SY (p2 _ (List.getElem_mem ht))).1,Option.bind_some,if_pos rfl]
   by_cases c:(t:Int) >0
   ·rw [if_pos c,KD (by omega) (by omega),iK (show t - 1<out'.length by omega),Option.bind_some,p4 (t - 1) (by omega) (by omega),p4 t ht (by omega),gB (by omega),ByteArray.toList_eq,ByteArray.toList_eq]
    have hb:Op.bytesLess (idL[t - 1]'(by omega)).data.toList (idL[t]'(by omega)).data.toList=true:=by
     have hc:t=1∨t=2∨t=3:=by omega
     rcases hc with rfl | rfl | rfl
     ·exact (by decide:Op.bytesLess [97] [98]=true)
     ·exact (by decide:Op.bytesLess [98] [99]=true)
     ·exact (by decide:Op.bytesLess [99] [100]=true)
    rw [hb]
    rfl
   ·rw [if_neg c,gB (by omega)]
    rfl
  ·unfold kZ
   rw [if_neg (by omega)]
 have e:aI (kZ out') 0=_:=e
 rw [e]
 show some (decide ((out'.length:Int)≤16))=_
 rw [decide_eq_true (by omega)]
def ps (g:Int→Int→Int):List Int→Int
 | a::b::t=>g a b+ps g (b::t)
 | _=>0
theorem Na {f:Int×Int→Option ((Int×Int) ⊕ Int)} {g:Int→Int→Int} {C M:Int} (ys:List Int) (hl:1≤ys.length) (hC:0≤C) (hg:∀k (h:k+1<ys.length),0≤g ys[k] ys[k+1]∧g ys[k] ys[k+1]≤C)
 (hstep:∀k (h:k+1<ys.length) s,0≤s→s+C≤M→f (s,((k+1:Nat):Int))=some (.inl (s+g ys[k] ys[k+1],((k+2:Nat):Int)))) (hend:∀s,f (s,(ys.length:Int))=some (.inr s)) {s0:Int} (h0:0≤s0) (hM:s0+C*ys.length≤M):
 aI f (s0,1)=some (s0+ps g ys)∧0≤ps g ys∧ps g ys≤C*ys.length:=by
 have key:∀(m i:Nat) (s:Int),i+m+1=ys.length→0≤s→s+C*m≤M→aI f (s,((i+1:Nat):Int))=some (s+ps g (ys.drop i))∧0≤ps g (ys.drop i)∧ps g (ys.drop i)≤C*m:=by
  intro m
  induction m with
  | zero=>
   intro i s hi hs hm
   have e:ys.drop i=[ys[i]'(by omega)]:=by
    rw [←List.getElem_cons_drop (by omega:i<ys.length),List.drop_of_length_le (by omega)]
   rw [e]
   refine ⟨bG (by rw [show ((i+1:Nat):Int)=(ys.length:Int) by omega,hend];show _=some (Sum.inr (s+0));rw [Int.add_zero]),Int.le_refl _,?_⟩
   show (0:Int)≤C* ((0:Nat):Int)
   simp
  | succ m ih=>
   intro i s hi hs hm
   obtain ⟨g1,g2⟩:=hg i (by omega)
   have hCm:C* ((m+1:Nat):Int)=C* (m:Int)+C:=by rw [Int.natCast_add,Int.mul_add];simp
   have alK:0≤C* (m:Int):=Int.mul_nonneg hC (by omega)
   have e:ys.drop i=ys[i]'(by omega)::ys[i+1]'(by omega)::ys.drop (i+2):=by
    rw [←List.getElem_cons_drop (by omega:i<ys.length),←List.getElem_cons_drop (by omega:i+1<ys.length)]
   have e1:ys.drop (i+1)=ys[i+1]'(by omega)::ys.drop (i+2):=(List.getElem_cons_drop (by omega:i+1<ys.length)).symm
   have e2:ps g (ys.drop i)=g (ys[i]'(by omega)) (ys[i+1]'(by omega))+ps g (ys.drop (i+1)):=by rw [e,e1];rfl
   obtain ⟨q1,q2,q3⟩:=ih (i+1) (s+g (ys[i]'(by omega)) (ys[i+1]'(by omega))) (by omega) (by omega) (by omega)
   rw [dA (hstep i (by omega) s hs (by omega)),e2]
   refine ⟨by rw [q1,Int.add_assoc],by omega,by omega⟩
 obtain ⟨q1,q2,q3⟩:=key (ys.length - 1) 0 s0 (by omega) h0 (by
  have:C* ((ys.length - 1:Nat):Int)≤C* (ys.length:Int):=Int.mul_le_mul_of_nonneg_left (by omega) hC
  omega)
 rw [List.drop_zero] at q1 q2 q3
 refine ⟨q1,q2,?_⟩
 have:C* ((ys.length - 1:Nat):Int)≤C* (ys.length:Int):=Int.mul_le_mul_of_nonneg_left (by omega) hC
 omega
def dd:List Int→List Int
 | []=>[]
 | a::t=>if t.head? =some a then dd t else a::dd t
theorem XV:∀l,(dd l).head? =l.head?
 | []=>rfl
 | a::t=>by
  unfold dd
  by_cases c:t.head? =some a
  ·rw [if_pos c,XV t,c];rfl
  ·rw [if_neg c];rfl
theorem O4 {x:Int}:∀l,x∈dd l↔x∈l
 | []=>Iff.rfl
 | a::t=>by
  unfold dd
  by_cases c:t.head? =some a
  ·rw [if_pos c,O4 t,List.mem_cons]
   exact ⟨.inr,fun h=>h.elim (fun e=>by subst e;exact List.mem_of_mem_head? c) id⟩
  ·rw [if_neg c,List.mem_cons,List.mem_cons,O4 t]
theorem S9:∀l,l.Pairwise (·≤·)→(dd l).Pairwise (· < ·)
 | [],_=>List.Pairwise.nil
 | a::t,h=>by
  obtain ⟨h1,h2⟩:=List.pairwise_cons.1 h
  unfold dd
  by_cases c:t.head? =some a
  ·rw [if_pos c];exact S9 t h2
  ·rw [if_neg c]
   refine List.pairwise_cons.2 ⟨fun x hx=>?_,S9 t h2⟩
   have hx:=(O4 t).1 hx
   cases t with
   | nil=>cases hx
   | cons b t=>
    have hb:=h1 b (List.mem_cons_self ..)
    have hab:a≠b:=fun e=>c (by rw [e];rfl)
    rcases List.mem_cons.1 hx with rfl | hx
    ·omega
    ·have:=(List.pairwise_cons.1 h2).1 x hx
     omega
theorem aaN {g:Int→Int→Int} (hg:∀x,g x x=0):∀l,ps g (dd l)=ps g l
 | []=>rfl
 | [a]=>rfl
 | a::b::t=>by
  have ih:=aaN hg (b::t)
  unfold dd
  by_cases c:(b::t).head? =some a
  ·rw [if_pos c,ih]
   have:b=a:=by simpa using c
   subst this
   show _=g b b+ps g (b::t)
   rw [hg];omega
  ·rw [if_neg c]
   show _=g a b+ps g (b::t)
   rw [←ih]
   have hh:=XV (b::t)
   cases hd:dd (b::t) with
   | nil=>rw [hd] at hh;cases hh
   | cons y r=>
    rw [hd] at hh
    have:y=b:=by simpa using hh
    subst this
    rfl
theorem Tc:∀(l m:List Int),l.Pairwise (· < ·)→m.Pairwise (· < ·)→(∀x,x∈l↔x∈m)→l=m
 | [],m,_,_,h=>by
  cases m with
  | nil=>rfl
  | cons y m=>exact absurd ((h y).2 (List.mem_cons_self ..)) (by simp)
 | x::l,[],_,_,h=>absurd ((h x).1 (List.mem_cons_self ..)) (by simp)
 | x::l,y::m,hl,hm,h=>by
  obtain ⟨l1,l2⟩:=List.pairwise_cons.1 hl
  obtain ⟨m1,m2⟩:=List.pairwise_cons.1 hm
  have hxy:x=y:=by
   rcases List.mem_cons.1 ((h x).1 (List.mem_cons_self ..)) with e | e
   ·exact e
   ·rcases List.mem_cons.1 ((h y).2 (List.mem_cons_self ..)) with e2 | e2
    ·exact e2.symm
    ·have:=m1 x e;have:=l1 y e2;omega
  subst hxy
  rw [Tc l m l2 m2 fun z=>?_]
  have:=h z
  rw [List.mem_cons,List.mem_cons] at this
  constructor
  ·intro hz
   have h1:=l1 z hz
   rcases this.1 (.inr hz) with e | e
   ·omega
   ·exact e
  ·intro hz
   have h1:=m1 z hz
   rcases this.2 (.inr hz) with e | e
   ·omega
   ·exact e
def pt (l:List Int) (n:Int):List Int:=l.filter (fun x=>decide (x<n))++[n]++l.filter fun x=>decide (n<x)
theorem aaO:∀(l:List Int) (n:Int),(pt l n).length≤l.length+1:=by
 intro l n
 have:(l.filter fun x=>decide (x<n)).length+(l.filter fun x=>decide (n<x)).length≤l.length:=by
  induction l with
  | nil=>simp
  | cons a l ih=>
   rw [List.filter_cons,List.filter_cons]
   by_cases c1:a<n
   ·rw [if_pos (by simpa using c1),if_neg (by simp;omega),List.length_cons,List.length_cons];omega
   ·rw [if_neg (by simpa using c1)]
    split<;>simp only [List.length_cons]<;>omega
 unfold pt
 rw [List.length_append,List.length_append,List.length_singleton]
 omega
theorem aaP {l:List Int} {n x:Int}:x∈pt l n↔x∈l∨x=n:=by
 unfold pt
 simp only [List.mem_append,List.mem_filter,List.mem_singleton,decide_eq_true_eq]
 constructor
 ·rintro ((h | h) | h)
  ·exact .inl h.1
  ·exact .inr h
  ·exact .inl h.1
 ·rintro (h | h)
  ·rcases Int.lt_trichotomy x n with c | c | c
   ·exact .inl (.inl ⟨h,c⟩)
   ·exact .inl (.inr c)
   ·exact .inr ⟨h,c⟩
  ·exact .inl (.inr h)
theorem VF {l:List Int} {n:Int} (h:l.Pairwise (· < ·)):(pt l n).Pairwise (· < ·):=by
 unfold pt
 rw [List.pairwise_append,List.pairwise_append]
 refine ⟨⟨h.filter _,List.pairwise_singleton _ _,fun a ha b hb=>?_⟩,h.filter _,fun a ha b hb=>?_⟩
 ·rw [List.mem_singleton.1 hb]
  simpa using (List.mem_filter.1 ha).2
 ·have h2:n<b:=by simpa using (List.mem_filter.1 hb).2
  rcases List.mem_append.1 ha with ha | ha
  ·have:a<n:=by simpa using (List.mem_filter.1 ha).2
   omega
  ·rw [List.mem_singleton.1 ha];exact h2
theorem aaQ {l:List Int} (hl:l.length≤1000) (h:l.Pairwise (· < ·)) (n:Int):oq l n=some (pt l n):=by
 have lp:∀(k i:Nat) (done:Bool) (out:List Int),i+k=l.length→out.length≤i+1→(done=false→out=l.take i∧∀x∈l.take i,x<n)→(done=true→out=pt (l.take i) n∧∀j (hj:j<l.length),i≤j→n<l[j])→
  ∃d o,aI (ik l n) (done,(i:Int),out)=some (d,o)∧(d=false→o=l∧∀x∈l,x<n)∧(d=true→o=pt l n):=by
  intro k
  induction k with
  | zero=>
   intro i done out hi ho h1 h2
   refine ⟨done,out,bG ?_,fun hd=>?_,fun hd=>?_⟩
   ·unfold ik
    simp only
    rw [if_neg (by omega)]
   ·have:=h1 hd
    rw [List.take_of_length_le (by omega)] at this
    exact this
   ·have:=(h2 hd).1
    rw [List.take_of_length_le (by omega)] at this
    exact this
  | succ k ih=>
   intro i done out hi ho h1 h2
   have hi':i<l.length:=by omega
   have htk:=List.take_succ_eq_append_getElem hi'
   have hlt:∀x∈l.take i,x<l[i]:=by
    intro x hx
    obtain ⟨j,hj,rfl⟩:=List.mem_take_iff_getElem.1 hx
    exact List.pairwise_iff_getElem.1 h j i (by omega) hi' (by omega)
   have hgt:∀j (hj:j<l.length),i+1≤j→l[i] <l[j]:=fun j hj hij=>List.pairwise_iff_getElem.1 h i j hi' hj (by omega)
   cases done with
   | true=>
    obtain ⟨e1,e2⟩:=h2 rfl
    have e3:=e2 i hi' (Nat.le_refl _)
    have st:ik l n (true,(i:Int),out)=some (.inl (true,((i+1:Nat):Int),out++[l[i]])):=by
     unfold ik jV
     simp only
     rw [if_pos (by omega),if_pos trivial,Option.bind_some,if_neg (by decide),iK hi',Option.bind_some,II (by rw [List.length_singleton];omega),Option.bind_some,gB (by omega)]
    rw [dA st]
    refine ih (i+1) true _ (by omega) (by rw [List.length_append,List.length_singleton];omega) (fun h=>by cases h) fun _=>⟨?_,fun j hj hij=>e2 j hj (by omega)⟩
    rw [e1,htk]
    unfold pt
    rw [List.filter_append,List.filter_append]
    have f1:[l[i]].filter (fun x=>decide (x<n))=[]:=by simp;omega
    have f2:[l[i]].filter (fun x=>decide (n<x))=[l[i]]:=by simp [e3]
    rw [f1,f2]
    simp
   | false=>
    obtain ⟨e1,e2⟩:=h1 rfl
    have p1:(l.take i).filter (fun x=>decide (x<n))=l.take i:=List.filter_eq_self.2 fun x hx=>by simpa using e2 x hx
    have p2:(l.take i).filter (fun x=>decide (n<x))=[]:=List.filter_eq_nil_iff.2 fun x hx=>by have:=e2 x hx;simp;omega
    by_cases c:l[i]≥n
    ·by_cases c2:l[i] >n
     ·have st:ik l n (false,(i:Int),out)=some (.inl (true,((i+1:Nat):Int),out++[n]++[l[i]])):=by
       unfold ik jV
       simp only
       rw [if_pos (by omega),if_neg (by decide),iK hi',Option.bind_some,Option.bind_some,decide_eq_true c,if_pos rfl,Option.bind_some,if_pos c2,II (by rw [List.length_singleton];omega),Option.bind_some,Option.bind_some,II (by rw [List.length_append,List.length_singleton,List.length_singleton];omega),Option.bind_some,gB (by omega)]
      rw [dA st]
      refine ih (i+1) true _ (by omega) (by rw [e1,List.length_append,List.length_append,List.length_singleton,List.length_singleton,List.length_take];omega) (fun h=>by cases h) fun _=>⟨?_,fun j hj hij=>by have:=hgt j hj hij;omega⟩
      rw [e1,htk]
      unfold pt
      rw [List.filter_append,List.filter_append,p1,p2]
      have f1:[l[i]].filter (fun x=>decide (x<n))=[]:=by simp;omega
      have f2:[l[i]].filter (fun x=>decide (n<x))=[l[i]]:=by simp;omega
      rw [f1,f2]
      simp
     ·have he:l[i]=n:=by omega
      have st:ik l n (false,(i:Int),out)=some (.inl (true,((i+1:Nat):Int),out++[l[i]])):=by
       unfold ik jV
       simp only
       rw [if_pos (by omega),if_neg (by decide),iK hi',Option.bind_some,Option.bind_some,decide_eq_true c,if_pos rfl,Option.bind_some,if_neg c2,Option.bind_some,II (by rw [List.length_singleton];omega),Option.bind_some,gB (by omega)]
      rw [dA st]
      refine ih (i+1) true _ (by omega) (by rw [List.length_append,List.length_singleton];omega) (fun h=>by cases h) fun _=>⟨?_,fun j hj hij=>by have:=hgt j hj hij;omega⟩
      rw [e1,htk]
      unfold pt
      rw [List.filter_append,List.filter_append,p1,p2,he]
      simp
    ·have st:ik l n (false,(i:Int),out)=some (.inl (false,((i+1:Nat):Int),out++[l[i]])):=by
      unfold ik jV
      simp only
      rw [if_pos (by omega),if_neg (by decide),iK hi',Option.bind_some,Option.bind_some,decide_eq_false c,if_neg (by decide),Option.bind_some,II (by rw [List.length_singleton];omega),Option.bind_some,gB (by omega)]
     rw [dA st]
     refine ih (i+1) false _ (by omega) (by rw [List.length_append,List.length_singleton];omega) (fun _=>⟨by rw [e1,htk],fun x hx=>?_⟩) fun h=>by cases h
     rw [htk] at hx
     rcases List.mem_append.1 hx with hx | hx
     ·exact e2 x hx
     ·rw [List.mem_singleton.1 hx];omega
 obtain ⟨d,o,q1,q2,q3⟩:=lp l.length 0 false [] (by omega) (by simp) (fun _=>⟨by simp,by simp⟩) (fun h=>by cases h)
 have q1:aI (ik l n) (false,0,[])=_:=q1
 unfold oq uq
 rw [q1]
 cases d with
 | true=>rw [q3 rfl];rfl
 | false=>
  obtain ⟨rfl,q4⟩:=q2 rfl
  simp only [Option.bind_some]
  rw [if_neg (by decide),II (by rw [List.length_singleton];omega),Option.bind_some]
  unfold pt
  rw [List.filter_eq_self.2 fun x hx=>by simpa using q4 x hx,List.filter_eq_nil_iff.2 fun x hx=>by have:=q4 x hx;simp;omega,List.append_nil]
theorem puts {D:List cO} {p q:cO→Int} {f:Int×List Int→Option ((Int×List Int) ⊕ List Int)}
 (hs:∀i (hi:i<D.length) out,f ((i:Int),out)=(oq out (p D[i])).bind fun x=>(oq x (q D[i])).bind fun y=>some (.inl (((i+1:Nat):Int),y))) (he:∀out,f ((D.length:Int),out)=some (.inr out)):
 ∀(k i:Nat) (out:List Int),i+k=D.length→out.Pairwise (· < ·)→out.length+2*k≤100→∃o,aI f ((i:Int),out)=some o∧o.Pairwise (· < ·)∧o.length≤out.length+2*k∧∀x,x∈o↔x∈out∨∃b∈D.drop i,x=p b∨x=q b:=by
 intro k
 induction k with
 | zero=>
  intro i out hi h1 h2
  refine ⟨out,bG (by rw [show (i:Int)=(D.length:Int) by omega,he]),h1,by omega,fun x=>?_⟩
  rw [List.drop_of_length_le (by omega)]
  simp
 | succ k ih=>
  intro i out hi h1 h2
  have hi':i<D.length:=by omega
  have l1:=aaO out (p D[i])
  have l2:=aaO (pt out (p D[i])) (q D[i])
  have st:=hs i hi' out
  rw [aaQ (by omega) h1,Option.bind_some,aaQ (by omega) (VF h1),Option.bind_some] at st
  obtain ⟨o,o1,o2,o3,o4⟩:=ih (i+1) (pt (pt out (p D[i])) (q D[i])) (by omega) (VF (VF h1)) (by omega)
  refine ⟨o,by rw [dA st];exact o1,o2,by omega,fun x=>?_⟩
  rw [o4,aaP,aaP,←List.getElem_cons_drop hi']
  simp only [List.mem_cons,exists_eq_or_imp]
  constructor
  ·rintro (((h | h) | h) | h)
   ·exact .inl h
   ·exact .inr (.inl (.inl h))
   ·exact .inr (.inl (.inr h))
   ·exact .inr (.inr h)
  ·rintro (h | (h | h) | h)
   ·exact .inl (.inl (.inl h))
   ·exact .inl (.inl (.inr h))
   ·exact .inl (.inr h)
   ·exact .inr h
def mtB (a c w l:Int) (x:cO):Bool:=decide (min2 (x.X+x.Width) (a+w) - max2 x.X a>0)&&decide (min2 (x.Y+x.Length) (c+l) - max2 x.Y c>0)
def hI (D:List cO) (a b c d:Int):Int:=if D.any (mtB a c (b - a) (d - c))=true then 0 else (b - a) * (d - c)
theorem aio (D:List cO) (a c d:Int):hI D a a c d=0:=by unfold hI;split<;>simp
theorem aip (D:List cO) (a b c:Int):hI D a b c c=0:=by unfold hI;split<;>simp
theorem aaR (D:List cO) {a b c d:Int} (h1:a≤b) (h2:b≤a+1000) (h3:c≤d) (h4:d≤c+1000):0≤hI D a b c d∧hI D a b c d≤1000000:=by
 unfold hI
 split
 ·omega
 ·exact ⟨Int.mul_nonneg (by omega) (by omega),by
   have:=Int.mul_le_mul (show b - a≤1000 by omega) (show d - c≤1000 by omega) (by omega) (by omega)
   omega⟩
section
variable {x:dH} (h:VE x)
include h
theorem acS {a c w l:Int} (a0:0≤a) (a1:a≤1000) (c0:0≤c) (c1:c≤1000) (w0:0≤w) (w1:w≤1000) (l0:0≤l) (l1:l≤1000):
 aN x.aG (fun a0=>jg a0 a c w l)=some (x.aG.any (mtB a c w l)):=by
 have hdl:=h.dl
 obtain ⟨wd0,wd1⟩:=h.wd
 obtain ⟨ln0,ln1⟩:=h.len
 unfold aN di
 rcases acG (f:=aW (fun a0=>jg a0 a c w l) x.aG) x.aG (fun b=>!mtB a c w l b) (fun i=>(i:Int)) (by omega) (fun i hi=>by
  obtain ⟨b1,b2,b3,b4,b5,b6⟩:=h.bx _ (List.getElem_mem hi)
  unfold aW jg yB Dw
  rw [if_pos (by omega),iK hi,Option.bind_some]
  simp only [Option.bind_some]
  generalize x.aG[i]=b at b1 b2 b3 b4 b5 b6
  have m1:0≤min2 (b.X+b.Width) (a+w)∧min2 (b.X+b.Width) (a+w)≤4000∧0≤max2 b.X a∧max2 b.X a≤4000:=by
   rcases qM (b.X+b.Width) (a+w) with q | q<;>rcases qL b.X a with p | p<;>omega
  have m2:0≤min2 (b.Y+b.Length) (c+l)∧min2 (b.Y+b.Length) (c+l)≤4000∧0≤max2 b.Y c∧max2 b.Y c≤4000:=by
   rcases qM (b.Y+b.Length) (c+l) with q | q<;>rcases qL b.Y c with p | p<;>omega
  rw [aV (n:=b.X+b.Width) (by omega) (by omega),aV (n:=a+w) (by omega) (by omega),aV (n:=b.Y+b.Length) (by omega) (by omega),aV (n:=c+l) (by omega) (by omega),
   aV (n:=min2 (b.X+b.Width) (a+w) - max2 b.X a) (by omega) (by omega),aV (n:=min2 (b.Y+b.Length) (c+l) - max2 b.Y c) (by omega) (by omega)]
  show (if mtB a c w l b=true then _ else _)=_
  cases mtB a c w l b<;>rfl) (by unfold aW;rw [if_neg (by omega)]) with ⟨q1,q2⟩ | ⟨q1,i,hi,q2⟩
 ·rw [q2,List.any_eq_false.2 fun y hy=>by simpa using List.all_eq_true.1 q1 y hy]
  rfl
 ·rw [q2]
  have:x.aG.any (mtB a c w l)=true:=by
   rw [List.all_eq_false] at q1
   obtain ⟨y,hy,q⟩:=q1
   exact List.any_eq_true.2 ⟨y,hy,by simpa using q⟩
  rw [this]
  show some (decide ((i:Int)≥0))=_
  rw [decide_eq_true (by omega)]
theorem aaS {a c w l:Int} (a0:0≤a) (a1:a≤1000) (c0:0≤c) (c1:c≤1000) (w0:1≤w) (w1:w≤1000) (l0:1≤l) (l1:l≤1000):
 xe x ⟨a,c,w,l⟩=some (!x.aG.any (mtB a c w l)):=by
 have hdl:=h.dl
 obtain ⟨wd0,wd1⟩:=h.wd
 obtain ⟨ln0,ln1⟩:=h.len
 unfold xe
 rw [OZ (f:=rE ⟨a,c,w,l⟩ x) x.aG (fun b=>!mtB a c w l b) (by omega) (fun i hi=>by
  obtain ⟨b1,b2,b3,b4,b5,b6⟩:=h.bx _ (List.getElem_mem hi)
  unfold rE A7
  rw [if_pos (by omega),iK hi,Option.bind_some]
  simp only [Option.bind_some]
  generalize x.aG[i]=b at b1 b2 b3 b4 b5 b6
  rw [aV (n:=b.X+b.Width) (by omega) (by omega),aV (n:=a+w) (by omega) (by omega),aV (n:=b.Y+b.Length) (by omega) (by omega),aV (n:=c+l) (by omega) (by omega)]
  have e:(decide (a<b.X+b.Width)&&(decide (b.X<a+w)&&(decide (c<b.Y+b.Length)&&decide (b.Y<c+l))))=mtB a c w l b:=by
   unfold mtB
   rw [Bool.eq_iff_iff]
   simp only [Bool.and_eq_true,decide_eq_true_eq]
   rcases qM (b.X+b.Width) (a+w) with q | q<;>rcases qL b.X a with p | p<;>rcases qM (b.Y+b.Length) (c+l) with q' | q'<;>rcases qL b.Y c with p' | p'<;>omega
  rw [e]
  cases mtB a c w l b<;>rfl) (by unfold rE;rw [if_neg (by omega)])]
 have e2:x.aG.all (fun b=>!mtB a c w l b)=!x.aG.any (mtB a c w l):=by rw [List.all_eq_not_any_not];simp
 rw [e2]
 cases x.aG.any (mtB a c w l)<;>rfl
structure Pl (l:List Int):Prop where
 len:2≤l.length∧l.length≤8
 rg:∀y∈l,0≤y∧y≤1000
omit h in
theorem Pl.le {l:List Int} (hp:Pl l) (hs:l.Pairwise (·≤·)) {k:Nat} (hk:k+1<l.length):0≤l[k]∧l[k]≤l[k+1]∧l[k+1]≤1000:=by
 have h1:=hp.rg _ (List.getElem_mem (by omega:k<l.length))
 have h2:=hp.rg _ (List.getElem_mem hk)
 have:=List.pairwise_iff_getElem.1 hs k (k+1) (by omega) hk (by omega)
 omega
theorem agV {xs ys:List Int} (px:Pl xs) (sx:xs.Pairwise (·≤·)) (py:Pl ys) (sy:ys.Pairwise (·≤·)):
 aI (lg x xs ys) (0,1)=some (ps (fun a b=>ps (hI x.aG a b) ys) xs):=by
 obtain ⟨xl1,xl2⟩:=px.len
 obtain ⟨yl1,yl2⟩:=py.len
 have inner:∀i (hi:i+1<xs.length) s,0≤s→s≤100000000→aI (nM ((i+1:Nat):Int) x xs ys) (s,1)=some (s+ps (hI x.aG xs[i] xs[i+1]) ys)∧0≤ps (hI x.aG xs[i] xs[i+1]) ys∧ps (hI x.aG xs[i] xs[i+1]) ys≤1000000*ys.length:=by
  intro i hi s s0 s1
  obtain ⟨a1,a2,a3⟩:=px.le sx hi
  refine Na (C:=1000000) (M:=200000000) ys (by omega) (by omega) (fun k hk=>?_) (fun k hk s s0 s1=>?_) (fun s=>?_) s0 (by omega)
  ·obtain ⟨b1,b2,b3⟩:=py.le sy hk
   exact aaR _ a2 (by omega) b2 (by omega)
  ·obtain ⟨b1,b2,b3⟩:=py.le sy hk
   obtain ⟨g1,g2⟩:=aaR x.aG a2 (by omega) b2 (by omega)
   have wi:w64 (((i+1:Nat):Int) - 1)=(i:Int):=by rw [aV (by omega) (by omega)];omega
   have wk:w64 (((k+1:Nat):Int) - 1)=(k:Int):=by rw [aV (by omega) (by omega)];omega
   have hm:0≤(xs[i+1] - xs[i]) * (ys[k+1] - ys[k])∧(xs[i+1] - xs[i]) * (ys[k+1] - ys[k])≤1000000:=⟨Int.mul_nonneg (by omega) (by omega),by
    have:=Int.mul_le_mul (show xs[i+1] - xs[i]≤1000 by omega) (show ys[k+1] - ys[k]≤1000 by omega) (by omega) (by omega)
    omega⟩
   unfold nM nK
   simp only
   rw [if_pos (by omega),wi,wk,iK (show i<xs.length by omega),Option.bind_some,iK (show k<ys.length by omega),Option.bind_some,iK hi,Option.bind_some,Option.bind_some,iK hk,Option.bind_some,Option.bind_some,
    aV (n:=xs[i+1] - xs[i]) (by omega) (by omega),aV (n:=ys[k+1] - ys[k]) (by omega) (by omega),acS h a1 (by omega) b1 (by omega) (by omega) (by omega) (by omega) (by omega),Option.bind_some,aV (n:=_*_) (by omega) (by omega),aV (n:=s+_) (by omega) (by omega),gB (by omega)]
   unfold hI
   split
   ·rw [Int.add_zero]
   ·rfl
  ·unfold nM
   simp only
   rw [if_neg (by omega)]
 have hy8:(1000000:Int) *ys.length≤8000000:=by omega
 have:=(Na (f:=lg x xs ys) (g:=fun a b=>ps (hI x.aG a b) ys) (C:=8000000) (M:=90000000) xs (by omega) (by omega) (fun k hk=>by
  obtain ⟨_,q2,q3⟩:=inner k hk 0 (by omega) (by omega)
  exact ⟨q2,by omega⟩) (fun k hk s s0 s1=>by
  obtain ⟨q1,_,_⟩:=inner k hk s s0 (by omega)
  unfold lg
  simp only
  rw [if_pos (by omega),q1,Option.bind_some,gB (by omega)]) (fun s=>by
  unfold lg
  simp only
  rw [if_neg (by omega)]) (s0:=0) (by omega) (by omega)).1
 rw [Int.zero_add] at this
 exact this
theorem agW {xs ys:List Int} (px:Pl xs) (sx:xs.Pairwise (· < ·)) (py:Pl ys) (sy:ys.Pairwise (· < ·)):
 aI (mW x xs ys) (0,1)=some (ps (fun a b=>ps (hI x.aG a b) ys) xs):=by
 obtain ⟨xl1,xl2⟩:=px.len
 obtain ⟨yl1,yl2⟩:=py.len
 have lx:xs.Pairwise (·≤·):=sx.imp fun h=>by omega
 have ly:ys.Pairwise (·≤·):=sy.imp fun h=>by omega
 have inner:∀i (hi:i+1<xs.length) s,0≤s→s≤100000000→aI (qB ((i+1:Nat):Int) x xs ys) (s,1)=some (s+ps (hI x.aG xs[i] xs[i+1]) ys)∧0≤ps (hI x.aG xs[i] xs[i+1]) ys∧ps (hI x.aG xs[i] xs[i+1]) ys≤1000000*ys.length:=by
  intro i hi s s0 s1
  obtain ⟨a1,a2,a3⟩:=px.le lx hi
  have a4:=List.pairwise_iff_getElem.1 sx i (i+1) (by omega) hi (by omega)
  refine Na (C:=1000000) (M:=200000000) ys (by omega) (by omega) (fun k hk=>?_) (fun k hk s s0 s1=>?_) (fun s=>?_) s0 (by omega)
  ·obtain ⟨b1,b2,b3⟩:=py.le ly hk
   exact aaR _ a2 (by omega) b2 (by omega)
  ·obtain ⟨b1,b2,b3⟩:=py.le ly hk
   have b4:=List.pairwise_iff_getElem.1 sy k (k+1) (by omega) hk (by omega)
   have wi:w64 (((i+1:Nat):Int) - 1)=(i:Int):=by rw [aV (by omega) (by omega)];omega
   have wk:w64 (((k+1:Nat):Int) - 1)=(k:Int):=by rw [aV (by omega) (by omega)];omega
   have hm:0≤(xs[i+1] - xs[i]) * (ys[k+1] - ys[k])∧(xs[i+1] - xs[i]) * (ys[k+1] - ys[k])≤1000000:=⟨Int.mul_nonneg (by omega) (by omega),by
    have:=Int.mul_le_mul (show xs[i+1] - xs[i]≤1000 by omega) (show ys[k+1] - ys[k]≤1000 by omega) (by omega) (by omega)
    omega⟩
   unfold qB qA
   simp only
   rw [if_pos (by omega),wi,wk,iK (show i<xs.length by omega),Option.bind_some,iK (show k<ys.length by omega),Option.bind_some,iK hi,Option.bind_some,Option.bind_some,iK hk,Option.bind_some,Option.bind_some,
    aV (n:=xs[i+1] - xs[i]) (by omega) (by omega),aV (n:=ys[k+1] - ys[k]) (by omega) (by omega),aaS h a1 (by omega) b1 (by omega) (by omega) (by omega) (by omega) (by omega),Option.bind_some,aV (n:=_*_) (by omega) (by omega),aV (n:=s+_) (by omega) (by omega),gB (by omega)]
   unfold hI
   cases x.aG.any (mtB xs[i] ys[k] (xs[i+1] - xs[i]) (ys[k+1] - ys[k])) with
   | true=>rw [if_pos rfl,Int.add_zero];rfl
   | false=>rfl
  ·unfold qB
   simp only
   rw [if_neg (by omega)]
 have hy8:(1000000:Int) *ys.length≤8000000:=by omega
 have:=(Na (f:=mW x xs ys) (g:=fun a b=>ps (hI x.aG a b) ys) (C:=8000000) (M:=90000000) xs (by omega) (by omega) (fun k hk=>by
  obtain ⟨_,q2,q3⟩:=inner k hk 0 (by omega) (by omega)
  exact ⟨q2,by omega⟩) (fun k hk s s0 s1=>by
  obtain ⟨q1,_,_⟩:=inner k hk s s0 (by omega)
  unfold mW
  simp only
  rw [if_pos (by omega),q1,Option.bind_some,gB (by omega)]) (fun s=>by
  unfold mW
  simp only
  rw [if_neg (by omega)]) (s0:=0) (by omega) (by omega)).1
 rw [Int.zero_add] at this
 exact this
omit h in
theorem KG (D:List cO) (p q:cO→Int):(D.flatMap fun b=>[p b,q b]).length=2*D.length:=by
 induction D with
 | nil=>rfl
 | cons b D ih=>rw [List.flatMap_cons,List.length_append,ih,List.length_cons];simp;omega
theorem YR:∃a,pR x=some (a,0)∧pU x=some (a,0):=by
 have hdl:=h.dl
 obtain ⟨wd0,wd1⟩:=h.wd
 obtain ⟨ln0,ln1⟩:=h.len
 let X0:List Int:=[0,x.Width]++x.aG.flatMap fun b=>[b.X,b.X+b.Width]
 let Y0:List Int:=[0,x.Length]++x.aG.flatMap fun b=>[b.Y,b.Y+b.Length]
 have lX:X0.length=2+2*x.aG.length:=by show ([0,x.Width]++_).length=_;rw [List.length_append,KG];rfl
 have lY:Y0.length=2+2*x.aG.length:=by show ([0,x.Length]++_).length=_;rw [List.length_append,KG];rfl
 have mX:∀y,y∈X0↔y∈[0,x.Width]∨∃b∈x.aG,y=b.X∨y=b.X+b.Width:=by
  intro y
  show y∈[0,x.Width]++_↔_
  rw [List.mem_append,List.mem_flatMap]
  simp
 have mY:∀y,y∈Y0↔y∈[0,x.Length]∨∃b∈x.aG,y=b.Y∨y=b.Y+b.Length:=by
  intro y
  show y∈[0,x.Length]++_↔_
  rw [List.mem_append,List.mem_flatMap]
  simp
 have rX:∀y∈X0,0≤y∧y≤1000:=by
  intro y hy
  rcases (mX y).1 hy with hy | ⟨b,hb,hy⟩
  ·simp at hy;omega
  ·obtain ⟨b1,b2,b3,b4,b5,b6⟩:=h.bx b hb
   omega
 have rY:∀y∈Y0,0≤y∧y≤1000:=by
  intro y hy
  rcases (mY y).1 hy with hy | ⟨b,hb,hy⟩
  ·simp at hy;omega
  ·obtain ⟨b1,b2,b3,b4,b5,b6⟩:=h.bx b hb
   omega
 obtain ⟨xs,x1,x2,x3⟩:=VA X0 (by omega)
 obtain ⟨ys,y1,y2,y3⟩:=VA Y0 (by omega)
 have px:Pl xs:=⟨by rw [x2.length_eq];omega,fun y hy=>rX y (x2.mem_iff.1 hy)⟩
 have py:Pl ys:=⟨by rw [y2.length_eq];omega,fun y hy=>rY y (y2.mem_iff.1 hy)⟩
 have ei:pR x=some (ps (fun a b=>ps (hI x.aG a b) ys) xs,0):=by
  unfold pR
  rw [(SY h).1,Option.bind_some,if_pos rfl]
  have e:aI (lV x) (0,[0,x.Width],[0,x.Length])=some (X0,Y0):=by
   have:=ER (f:=lV x) (r:=(X0,Y0)) (fun t:Nat=>((t:Int),[0,x.Width]++(x.aG.take t).flatMap (fun b=>[b.X,b.X+b.Width]),[0,x.Length]++(x.aG.take t).flatMap fun b=>[b.Y,b.Y+b.Length])) x.aG.length (fun t ht=>by
    obtain ⟨b1,b2,b3,b4,b5,b6⟩:=h.bx _ (List.getElem_mem ht)
    unfold lV
    simp only
    rw [if_pos (by omega),iK ht,Option.bind_some,aV (n:=x.aG[t].X+x.aG[t].Width) (by omega) (by omega),aV (n:=x.aG[t].Y+x.aG[t].Length) (by omega) (by omega),
     II (by rw [List.length_append,KG,List.length_take];simp;omega),Option.bind_some,II (by rw [List.length_append,KG,List.length_take];simp;omega),Option.bind_some,gB (by omega),List.take_succ_eq_append_getElem ht,List.flatMap_append,List.flatMap_append,List.flatMap_singleton,List.flatMap_singleton,List.append_assoc,List.append_assoc]) (by
    unfold lV
    simp only
    rw [if_neg (by omega),List.take_length])
   simp only [List.take_zero,List.flatMap_nil,List.append_nil] at this
   exact this
  rw [e]
  simp only [Option.bind_some]
  rw [x1,Option.bind_some,y1,Option.bind_some,agV h px x3 py y3]
  rfl
 obtain ⟨xs',p1,p2,p3,p4⟩:=puts (D:=x.aG) (p:=fun b=>b.X) (q:=fun b=>b.X+b.Width) (f:=uH x) (fun i hi out=>by
  obtain ⟨b1,b2,b3,b4,b5,b6⟩:=h.bx _ (List.getElem_mem hi)
  unfold uH
  simp only
  rw [if_pos (by omega),iK hi]
  simp only [Option.bind_some]
  rw [aV (n:=x.aG[i].X+x.aG[i].Width) (by omega) (by omega),gB (by omega)]) (fun out=>by
  unfold uH
  simp only
  rw [if_neg (by omega)]) x.aG.length 0 [0,x.Width] (by omega) (by simp;omega) (by simp;omega)
 obtain ⟨ys',q1,q2,q3,q4⟩:=puts (D:=x.aG) (p:=fun b=>b.Y) (q:=fun b=>b.Y+b.Length) (f:=uI x) (fun i hi out=>by
  obtain ⟨b1,b2,b3,b4,b5,b6⟩:=h.bx _ (List.getElem_mem hi)
  unfold uI
  simp only
  rw [if_pos (by omega),iK hi]
  simp only [Option.bind_some]
  rw [aV (n:=x.aG[i].Y+x.aG[i].Length) (by omega) (by omega),gB (by omega)]) (fun out=>by
  unfold uI
  simp only
  rw [if_neg (by omega)]) x.aG.length 0 [0,x.Length] (by omega) (by simp;omega) (by simp;omega)
 rw [List.drop_zero] at p4 q4
 have exs:dd xs=xs':=Tc _ _ (S9 xs x3) p2 fun y=>by rw [O4,x2.mem_iff,mX,p4]
 have eys:dd ys=ys':=Tc _ _ (S9 ys y3) q2 fun y=>by rw [O4,y2.mem_iff,mY,q4]
 have two:∀{l:List Int} {a b:Int},a≠b→a∈l→b∈l→2≤l.length:=by
  intro l a b hab ha hb
  cases l with
  | nil=>cases ha
  | cons y l=>
   cases l with
   | nil=>
    rw [List.mem_singleton] at ha hb
    exact absurd (ha.trans hb.symm) hab
   | cons z l=>simp
 have px':Pl xs':=⟨⟨two (a:=0) (b:=x.Width) (by omega) ((p4 _).2 (.inl (by simp))) ((p4 _).2 (.inl (by simp))),by have:[0,x.Width].length=2:=rfl;omega⟩,fun y hy=>rX y ((mX y).2 ((p4 y).1 hy))⟩
 have py':Pl ys':=⟨⟨two (a:=0) (b:=x.Length) (by omega) ((q4 _).2 (.inl (by simp))) ((q4 _).2 (.inl (by simp))),by have:[0,x.Length].length=2:=rfl;omega⟩,fun y hy=>rY y ((mY y).2 ((q4 y).1 hy))⟩
 refine ⟨_,ei,?_⟩
 have p1:aI (uH x) (0,[0,x.Width])=some xs':=p1
 have q1:aI (uI x) (0,[0,x.Length])=some ys':=q1
 unfold pU yG Fq Fv
 rw [(SY h).2,Option.bind_some,if_pos rfl,p1]
 simp only [Option.bind_some]
 rw [q1]
 simp only [Option.bind_some]
 rw [agW h px' p2 py' q2]
 simp only [Option.bind_some]
 have e:ps (fun a b=>ps (hI x.aG a b) ys') xs'=ps (fun a b=>ps (hI x.aG a b) ys) xs:=by
  have e1:(fun a b=>ps (hI x.aG a b) ys')=fun a b=>ps (hI x.aG a b) ys:=by
   funext a b
   rw [←eys]
   exact aaN (fun y=>aip _ _ _ _) ys
  rw [e1,←exs]
  refine aaN (fun y=>?_) xs
  have:∀l,ps (hI x.aG y y) l=0:=by
   intro l
   induction l with
   | nil=>rfl
   | cons a l ih=>
    cases l with
    | nil=>rfl
    | cons b l=>
     show hI x.aG y y a b+_=0
     rw [aio,ih]
     rfl
  exact this ys
 rw [e]
end
theorem adG {m:List Int} (hm:∀x∈m,0≤x∧x≤255) {k:Int} (hk:0≤k):∃v,Bf m k 256=some v∧0≤v∧v<256:=by
 unfold Bf
 by_cases c1:k≥(m.length:Int)
 ·rw [if_pos (.inr c1)]
  exact ⟨0,rfl,by omega,by omega⟩
 ·rw [if_neg (by omega)]
  obtain ⟨x,x1,x2⟩:=rd_some (L:=m) (i:=k) hk (by omega)
  obtain ⟨y1,y2⟩:=hm x x2
  obtain ⟨j,rfl⟩:∃j:Nat,x=(j:Int):=⟨x.toNat,by omega⟩
  rw [x1,Option.bind_some,aV (n:=(j:Int)) (by omega) (by omega),show (256:Int)=((256:Nat):Int) from rfl,aaF (by omega)]
  exact ⟨_,rfl,by omega,by have:=Nat.mod_lt j (show 256>0 by omega);omega⟩
theorem XW {m:List Int} (hm:∀x∈m,0≤x∧x≤255) {k:Int} (hk:0≤k) (hk2:k≤1000) {n:Nat} (hn:0<n):∃v,rO m k (n:Int)=some v∧0≤v∧v<n:=by
 obtain ⟨a,a1,a2,a3⟩:=adG hm hk
 obtain ⟨b,b1,b2,b3⟩:=adG hm (k:=k+1) (by omega)
 unfold rO
 rw [a1,Option.bind_some,aV (n:=k+1) (by omega) (by omega),b1,Option.bind_some,aV (n:=256*a) (by omega) (by omega),aV (n:=256*a+b) (by omega) (by omega)]
 obtain ⟨j,hj⟩:∃j:Nat,256*a+b=(j:Int):=⟨(256*a+b).toNat,by omega⟩
 rw [hj,aaF hn]
 exact ⟨_,rfl,by omega,by have:=Nat.mod_lt j hn;omega⟩
def Bl (x:aH) (Ls:List dH) (best least:Int):Prop:=best<0∨∃(j:Nat) (hj:j<Ls.length),best=(j:Int)∧Ls[j].dX.gm=x.dX.gm∧least=ctP Ls[j].dX x.dX∧∃a,pU Ls[j]=some (a,0)∧x.Area≤a
theorem aaT {x:aH} (hx:okV x.dX) {Ls:List dH} (hL:∀y∈Ls,VE y) (hl:Ls.length≤16):∀(k i:Nat) (best least:Int),i+k=Ls.length→Bl x Ls best least→
 ∃b e,aI (jC Ls x) (best,least,(i:Int))=some (b,e)∧Bl x Ls b e:=by
 intro k
 induction k with
 | zero=>
  intro i best least hi h
  refine ⟨best,least,bG ?_,h⟩
  unfold jC
  simp only
  rw [if_neg (by omega)]
 | succ k ih=>
  intro i best least hi h
  have hi':i<Ls.length:=by omega
  have ho:=hL _ (List.getElem_mem hi')
  obtain ⟨a,a1,a2⟩:=YR ho
  have st:∃b e,jC Ls x (best,least,(i:Int))=some (.inl (b,e,((i+1:Nat):Int)))∧Bl x Ls b e:=by
   unfold jC kE
   simp only
   rw [if_pos (by omega),iK hi',Option.bind_some,a1,Option.bind_some,gB (by omega)]
   by_cases c:¬Ls[i].dX.gm=x.dX.gm∨a<x.Area
   ·rw [if_pos c]
    exact ⟨best,least,rfl,h⟩
   ·rw [if_neg c,aij (SQ ho.ven) hx,Option.bind_some]
    by_cases c2:best<0∨ctP Ls[i].dX x.dX<least
    ·rw [if_pos c2]
     exact ⟨_,_,rfl,.inr ⟨i,hi',rfl,Classical.byContradiction fun h=>c (.inl h),rfl,a,a2,by omega⟩⟩
    ·rw [if_neg c2]
     exact ⟨best,least,rfl,h⟩
  obtain ⟨b,e,s1,s2⟩:=st
  rw [dA s1]
  exact ih (i+1) b e (by omega) s2
theorem UF (c m:List Int) (hc:∀x∈c,0≤x∧x≤255) (hm:∀x∈m,0≤x∧x≤255):yH c m=some true:=by
 unfold yH Dn
 rw [Option.bind_some]
 by_cases cl:(decide ((c.length:Int) >1048576)||decide ((m.length:Int) >1048576))=true
 ·rw [if_pos cl]
 rw [if_neg cl]
 obtain ⟨l,l1,l2,l3⟩:=YP hc
 have hv:=adE l2
 obtain ⟨v,v1,v2⟩:=UC l (by omega)
 have hL:∀x∈l,Lo x:=(v2 (by rw [hv] at v1;exact (Option.some.inj v1).symm)).2
 obtain ⟨mo,mo1,mo2,mo3⟩:=XW hm (k:=0) (by omega) (by omega) (n:=2000) (by omega)
 obtain ⟨mi,mi1,mi2,mi3⟩:=XW hm (k:=2) (by omega) (by omega) (n:=800) (by omega)
 have mo1:rO m 0 2000=some mo:=mo1
 have mi1:rO m 2 800=some mi:=mi1
 obtain ⟨E,e1,e2,e3,e4,e5⟩:=YO hL (by omega) hv mo2 (by omega) mi2 (by omega) (ji:=mo) (minutes:=mi)
 obtain ⟨F,f1,f2,f3⟩:=acN hL (by omega) l3 hv mo2 (by omega) mi2 (by omega) (ji:=mo) (minutes:=mi)
 have fe:=f3 E ⟨e2,fun x hx=>by have:=e3 x hx;omega,e4,e5⟩
 have sE:=XQ hL hv (by omega) e2 e3
 have sF:=XQ hL hv (by omega) f2.inc fun x hx=>by have:=f2.inn x hx;omega
 have c1:=f2.cost
 have c2:=f2.time
 rw [l1,Option.bind_some,mo1,Option.bind_some,mi1,Option.bind_some,e1,Option.bind_some,f1,Option.bind_some]
 simp only
 rw [sE,Option.bind_some,sF,Option.bind_some]
 simp only
 rw [if_neg (by omega)]
 obtain ⟨Ls,q1,q2,q3,q4⟩:=YQ hm
 rw [q1,Option.bind_some]
 by_cases c0:(l.length:Int)=0
 ·rw [if_pos c0]
 rw [if_neg c0]
 have h0:0<l.length:=by omega
 have r0:rd l 0=some l[0]:=iK h0
 have hx0:=l2.ok _ (List.getElem_mem h0)
 have hvn:O0 l[0].dX=true:=by
  unfold jQ at hx0
  rw [Qy] at hx0
  cases hh:O0 l[0].dX with
  | true=>rfl
  | false=>
   rw [hh] at hx0
   exfalso
   cases hn:iF l[0].Name with
   | none=>rw [hn] at hx0;cases hx0
   | some b=>rw [hn] at hx0;cases b<;>cases hx0
 have ho0:=SQ hvn
 rw [r0]
 simp only [Option.bind_some]
 obtain ⟨b,e,p1,p2⟩:=aaT ho0 q3 (by omega) Ls.length 0 (-1) 0 (by omega) (.inl (by omega))
 have p1:aI (jC Ls l[0]) (-1,0,0)=_:=p1
 have hlf:rC l[0] Ls=some (if b<0 then (0,0,3) else (b,e,0)):=by
  unfold rC
  rw [hx0,Option.bind_some,if_pos rfl,q2]
  simp only [Option.bind_some,Bool.not_true,Bool.false_eq_true,if_false]
  rw [p1]
  simp only [Option.bind_some]
  split<;>rfl
 rw [hlf,Option.bind_some]
 rcases p2 with p2 | ⟨j,hj,rfl,p3,p4,a,p5,p6⟩
 ·rw [if_pos p2]
  rfl
 ·rw [if_neg (show ¬(j:Int) <0 by omega)]
  simp only
  rw [if_neg (by decide),if_neg (by omega),iK hj,Option.bind_some]
  have hvj:=(q3 _ (List.getElem_mem hj)).ven
  have hco:um l[0].dX Ls[j].dX=some (ctP Ls[j].dX l[0].dX,0):=by
   unfold um
   rw [UA,hvn,Option.bind_some,if_pos rfl,UA,hvj]
   simp only [Option.bind_some,Bool.not_true,Bool.false_eq_true,if_false]
   rw [aii ho0 (SQ hvj),Option.bind_some,aaE]
  rw [hco,Option.bind_some,Option.bind_some,p5,Option.bind_some]
  simp only [if_true]
  rw [if_pos p4.symm,if_pos (show a≥l[0].Area from p6)]
  simp [p3]
end Go.Pw
