/- The plain law of FnExactBestRepairs. Conditions: none. -/
import Derived.Test.YtcmnbcaeibcceaaTbqT
import Derived.Test.YtcmnbcaeibcceaaSimPe
import Derived.Test.YtcmnbcaeibcceaaSimPn
import Derived.Test.YtcmnbcaeibcceaaSimRh
namespace Go.Pw
open Go.Sim (min2 max2)
set_option linter.unusedVariables false
set_option linter.unusedSimpArgs false
theorem maxLen_eq:maxLen=9223372036854775807:=rfl
theorem bq_szN {α:Type} {f:Int×Int→Option ((Int×Int) ⊕ (Int ⊕ Int))} (l:List α) (B:α→Prop) (hl:l.length<4611686018427387904)
 (h1:∀(i:Nat) (hi:i<l.length) (u:Int),0≤u→u≤1048576→∃v,v≤u∧(v<0∨B l[i])∧f (u,(i:Int))=if v<0 then some (.inr (.inr (-1))) else some (.inl (v,w64 ((i:Int)+1))))
 (h2:∀u,f (u,(l.length:Int))=some (.inr (.inl u))) {left:Int} (h3:0≤left) (h4:left≤1048576):
 Ev (loopO f (left,0)) (fun r=>r= .inr (-1)∨∃v,r= .inl v∧0≤v∧v≤left∧∀x∈l,B x):=by
 refine Ev.loop (fun s=>∃i:Nat,s.2=(i:Int)∧i≤l.length∧0≤s.1∧s.1≤left∧∀x∈l.take i,B x) (fun s=>((l.length:Int) - s.2).toNat) ?_ ⟨0,rfl,Nat.zero_le _,h3,Int.le_refl _,fun x hx=>(by simp at hx)⟩
 rintro ⟨u,i⟩ ⟨j,rfl,j1,j2,j3,j4⟩
 simp only at j2 j3
 by_cases c:j<l.length
 ·obtain ⟨v,v1,v2,v3⟩:=h1 j c u j2 (by omega)
  rw [v3]
  refine Ev.ite (fun _=>Ev.ret (.inl rfl)) fun hv=>?_
  rw [w64_succ (by omega)]
  refine Ev.ret ⟨⟨j+1,rfl,by omega,by simp only;omega,by simp only;omega,fun x hx=>?_⟩,by simp only;omega⟩
  rw [List.take_succ_eq_append_getElem c] at hx
  rcases List.mem_append.1 hx with hx | hx
  ·exact j4 x hx
  ·rw [List.mem_singleton] at hx
   subst hx
   exact v2.resolve_left hv
 ·obtain rfl:j=l.length:=by omega
  rw [h2]
  exact Ev.ret (.inr ⟨u,rfl,j2,j3,by rwa [List.take_length] at j4⟩)
def wf_S_Veneer (x:S_Veneer):Prop:=x.Species.size≤maxLen∧(Lit.int .i64 x.Shade).wf=true∧(Lit.int .i64 x.Grain).wf=true
def bd_S_Veneer (x:S_Veneer):Prop:=x.Species.size≤1048576∧True∧True
theorem bq_szVeneer (x:S_Veneer) (h:wf_S_Veneer x) {left:Int} (h0:0≤left) (h1:left≤1048576):Ev (laws_szVeneer x left) (fun v=>v≤left∧(v<0∨bd_S_Veneer x)):=by
 obtain ⟨w0,w1,w2⟩:=h
 unfold laws_szVeneer
 rw [maxLen_eq] at w0
 rw [w64_id (n:=left - (x.Species.size:Int)) (by omega) (by omega)]
 refine Ev.ite (fun _=>Ev.ret ⟨by omega,.inl (by omega)⟩) fun c0=>?_
 exact Ev.ret ⟨by omega,.inr ⟨by omega,trivial,trivial⟩⟩
theorem bq_toVeneer (x:S_Veneer) (h:bd_S_Veneer x):laws_toVeneer x=some x:=by
 unfold laws_toVeneer
 rfl
theorem bq_eqVeneer (x:S_Veneer) (h:bd_S_Veneer x):laws_eqVeneer x x=some true:=by
 unfold laws_eqVeneer
 simp []
def wf_S_Loss (x:S_Loss):Prop:=x.Name.size≤maxLen∧wf_S_Veneer x.Veneer∧(Lit.int .i64 x.Area).wf=true∧(Lit.int .i64 x.Priority).wf=true∧(Lit.int .i64 x.Cost).wf=true∧(Lit.int .i64 x.Minutes).wf=true
def bd_S_Loss (x:S_Loss):Prop:=x.Name.size≤1048576∧bd_S_Veneer x.Veneer∧True∧True∧True∧True
theorem bq_szLoss (x:S_Loss) (h:wf_S_Loss x) {left:Int} (h0:0≤left) (h1:left≤1048576):Ev (laws_szLoss x left) (fun v=>v≤left∧(v<0∨bd_S_Loss x)):=by
 obtain ⟨w0,w1,w2,w3,w4,w5⟩:=h
 unfold laws_szLoss
 rw [maxLen_eq] at w0
 rw [w64_id (n:=left - (x.Name.size:Int)) (by omega) (by omega)]
 refine Ev.ite (fun _=>Ev.ret ⟨by omega,.inl (by omega)⟩) fun c0=>?_
 refine Ev.bind (bq_szVeneer x.Veneer w1 (left:=left - (x.Name.size:Int)) (by omega) (by omega)) fun v1 q1=>?_
 refine Ev.ite (fun _=>Ev.ret ⟨by omega,.inl (by omega)⟩) fun c1=>?_
 exact Ev.ret ⟨by omega,.inr ⟨by omega,q1.2.resolve_left c1,trivial,trivial,trivial,trivial⟩⟩
theorem bq_toLoss (x:S_Loss) (h:bd_S_Loss x):laws_toLoss x=some x:=by
 unfold laws_toLoss
 rw [bq_toVeneer x.Veneer h.2.1,Option.bind_some]
theorem bq_eqLoss (x:S_Loss) (h:bd_S_Loss x):laws_eqLoss x x=some true:=by
 unfold laws_eqLoss
 simp [bq_eqVeneer x.Veneer (h.2.1)]
theorem bq_szLossS (l:(List S_Loss)) (h:((∀a∈l,wf_S_Loss a)∧l.length≤maxLen)) {left:Int} (h0:0≤left) (h1:left≤1048576):Ev (laws_szLossS l left) (fun v=>v≤left∧(v<0∨(l.length≤1048576∧∀a∈l,bd_S_Loss a))):=by
 obtain ⟨hw,hl⟩:=h
 rw [maxLen_eq] at hl
 unfold laws_szLossS
 rw [w64_id (n:=left - (l.length:Int)) (by omega) (by omega)]
 refine Ev.ite (fun _=>Ev.ret ⟨by omega,.inl (by omega)⟩) fun c=>?_
 refine Ev.bind (bq_szN (f:=laws_szLossS_l5 l) l (fun a=>bd_S_Loss a) (by omega) (fun i hi u hu1 hu2=>?_) (fun u=>?_) (left:=left - (l.length:Int)) (by omega) (by omega)) fun r hr=>?_
 ·
  obtain ⟨v,v1,v2,v3⟩:=bq_szLoss l[i] (hw _ (List.getElem_mem hi)) hu1 hu2
  refine ⟨v,v2,v3,?_⟩
  unfold laws_szLossS_l5
  simp only
  rw [if_pos (by omega),rd_lt hi,Option.bind_some,v1,Option.bind_some]
 ·unfold laws_szLossS_l5
  simp only
  rw [if_neg (by omega)]
 ·rcases hr with rfl | ⟨v,rfl,g1,g2,g3⟩
  ·exact Ev.ret ⟨by omega,.inl (by omega)⟩
  ·exact Ev.ret ⟨by omega,.inr ⟨by omega,g3⟩⟩
theorem bq_toLossS (l:(List S_Loss)) (h:(l.length≤1048576∧∀a∈l,bd_S_Loss a)):laws_toLossS l=some l:=by
 have hl:=h.1
 unfold laws_toLossS mkl
 rw [if_pos (by constructor<;>omega),Option.bind_some]
 rw [copyS (f:=laws_toLossS_l3 l) l _ (by simp) (by omega) ?_ ?_]
 ·rfl
 ·intro i hi out ho
  unfold laws_toLossS_l3
  simp only
  rw [if_pos (by omega),rd_lt hi,Option.bind_some,bq_toLoss l[i] (h.2 _ (List.getElem_mem hi)),Option.bind_some,rd_lt (by omega:i<out.length),Option.bind_some]
  simp
 ·intro out
  unfold laws_toLossS_l3
  simp
theorem bq_eqLossS (l:(List S_Loss)) (h:(l.length≤1048576∧∀a∈l,bd_S_Loss a)):laws_eqLossS l l=some true:=by
 have hl:=h.1
 unfold laws_eqLossS
 rw [if_neg (by simp),eqS_refl (n:=l.length) (by omega) ?_ ?_]
 ·rfl
 ·intro i hi
  unfold laws_eqLossS_l4
  rw [if_pos (by omega),rd_lt hi]
  simp only [Option.bind_some]
  rw [bq_eqLoss l[i] (h.2 _ (List.getElem_mem hi))]
  rfl
 ·unfold laws_eqLossS_l4
  rw [if_neg (by omega)]
theorem within_eq (n a b:Int):impl_within n a b=some (decide (a≤n∧n≤b)):=by
 unfold impl_within
 rw [Bool.decide_and]
theorem in_eq (n a b:Int):spec_l00In n a b=some (decide (a≤n∧n≤b)):=by
 unfold spec_l00In
 rw [Bool.decide_and]
theorem name_step (s:ByteArray) (i:Int):impl_IsName_l4 s i=spec_l01Name_l4 s i:=by
 unfold impl_IsName_l4 spec_l01Name_l4
 by_cases c:i< (s.size:Int)
 ·rw [if_pos c,if_pos c]
  cases bt s i with
  | none=>rfl
  | some x=>
   have d1:decide (x≥97)=!decide (x<97):=by rw [←decide_not];exact decide_eq_decide.2 (by omega)
   have d2:decide (x≤122)=!decide (x>122):=by rw [←decide_not];exact decide_eq_decide.2 (by omega)
   have d3:decide (x≥48)=!decide (x<48):=by rw [←decide_not];exact decide_eq_decide.2 (by omega)
   have d4:decide (x≤57)=!decide (x>57):=by rw [←decide_not];exact decide_eq_decide.2 (by omega)
   simp only [Option.bind_some,spec_l01Small,spec_l01Digit,d1,d2,d3,d4]
   by_cases c1:x<97<;>by_cases c2:x>122<;>by_cases c3:x<48<;>by_cases c4:x>57<;>simp [c1,c2,c3,c4]
 ·rw [if_neg c,if_neg c]
theorem name_eq (s:ByteArray):∃v,spec_l01Name s=some v∧impl_IsName s=some v:=by
 unfold spec_l01Name impl_IsName
 by_cases c0:s.size=0
 ·have hs:=size_zero c0
  refine ⟨false,?_,?_⟩
  ·rw [if_pos hs];rfl
  ·rw [if_pos (by omega)];rfl
 ·have hs:¬s=⟨#[]⟩:=fun h=>c0 (by rw [h];rfl)
  rw [if_neg hs,if_neg (show ¬((s.size:Int) <1) by omega)]
  by_cases c1:(s.size:Int) >10
  ·rw [if_pos c1,if_pos c1]
   exact ⟨false,rfl,rfl⟩
  ·rw [if_neg c1,if_neg c1]
   obtain ⟨b,hb,hb1,hb2⟩:=bt_some (s:=s) (i:=0) (by omega)
   have hb':bt s 0=some b:=hb
   rw [hb']
   have hloop:∃o,loopO (spec_l01Name_l4 s) 0=some o:=by
    refine scanEnds s.size (by omega) (fun i hi=>?_) ⟨.inl (),?_⟩
    ·obtain ⟨x,hx,_⟩:=bt_some (s:=s) hi
     unfold spec_l01Name_l4
     rw [if_pos (by omega),hx]
     simp only [Option.bind_some,spec_l01Small,spec_l01Digit]
     split
     ·simp
     ·simp only [Option.bind_some]
      split
      ·exact .inr ⟨_,rfl⟩
      ·exact .inl rfl
    ·unfold spec_l01Name_l4
     rw [if_neg (by omega)]
   obtain ⟨o,ho⟩:=hloop
   have ho2:loopO (impl_IsName_l4 s) 0=some o:=by rw [loopO_congr (name_step s)];exact ho
   rw [ho,ho2]
   have e:(if b<97 then some true else some (decide (b>122)))=some (!(decide (b≥97)&&decide (b≤122))):=by
    have d1:decide (b≥97)=!decide (b<97):=by rw [←decide_not];exact decide_eq_decide.2 (by omega)
    have d2:decide (b≤122)=!decide (b>122):=by rw [←decide_not];exact decide_eq_decide.2 (by omega)
    rw [d1,d2]
    by_cases c2:b<97<;>by_cases c3:b>122<;>simp [c2,c3]
   simp only [Option.bind_some,spec_l01Small]
   rw [e]
   simp only [Option.bind_some]
   split
   ·exact ⟨false,rfl,rfl⟩
   ·cases o with
    | inl u=>exact ⟨true,rfl,rfl⟩
    | inr r=>exact ⟨r,rfl,rfl⟩
theorem nm (s:ByteArray):impl_IsName s=spec_l01Name s:=by
 obtain ⟨v,h1,h2⟩:=name_eq s
 rw [h1,h2]
theorem apd1 {l:List Int} {x:Int} (h:l.length≤1000000):apd 8 l [x]=some (l++[x]):=by
 unfold apd
 rw [if_pos (by simp;omega)]
theorem apd0 {l:List Int} (h:l.length≤1000000):apd 8 ([]:List Int) l=some l:=by
 unfold apd
 rw [if_pos (by simp;omega)]
 rfl
def nms:List ByteArray:=[⟨#[97,115,104]⟩,⟨#[98,101,101,99,104]⟩,⟨#[98,105,114,99,104]⟩,⟨#[99,104,101,114,114,121]⟩,⟨#[101,98,111,110,121]⟩,⟨#[104,111,108,108,121]⟩,⟨#[109,97,112,108,101]⟩,⟨#[111,97,107]⟩,⟨#[114,111,115,101,119,111,111,100]⟩,⟨#[119,97,108,110,117,116]⟩]
theorem bne_of {a b:Array UInt8} (h:a.toList≠b.toList):¬(⟨a⟩:ByteArray)=⟨b⟩:=fun e=>h (by injection e with e;rw [e])
theorem species (s:ByteArray):(spec_l07Find s=some (-1)∧impl_speciesShade s=some (0,false))∨
 ∃(k:Nat) (b:Int) (tb:List (List Int)) (row:List Int),spec_l07Find s=some (k:Int)∧spec_l07Table=some tb∧rd tb (k:Int)=some row∧rd row 0=some b∧0≤b∧b≤100∧impl_speciesShade s=some (b,true):=by
 have hN:spec_l07Names=some nms:=rfl
 unfold spec_l07Find
 rw [hN,Option.bind_some]
 rcases scanFind (f:=spec_l07Find_l3 s nms) nms (fun x=>decide (x=s)) (fun k=>(k:Int)) (by decide) (fun i hi=>by
  unfold spec_l07Find_l3
  rw [if_pos (by omega),rd_lt hi,Option.bind_some]
  by_cases c:nms[i]=s
  ·rw [if_pos c,if_pos (decide_eq_true c)]
  ·rw [if_neg c,if_neg (by simpa using c)]) (by unfold spec_l07Find_l3;rw [if_neg (by omega)]) with ⟨a,b⟩ | ⟨k,hk,a,_,b⟩
 ·left
  rw [b]
  refine ⟨rfl,?_⟩
  have hn:∀x∈nms,¬s=x:=fun x hx e=>by
   have:=a x hx
   rw [e] at this
   simp at this
  simp only [nms,List.mem_cons,forall_eq_or_imp,List.not_mem_nil,false_implies,implies_true,and_true] at hn
  obtain ⟨h1,h2,h3,h4,h5,h6,h7,h8,h9,h10⟩:=hn
  unfold impl_speciesShade impl_SpeciesData
  rw [if_neg h1,if_neg h2,if_neg h3,if_neg h4,if_neg h5,if_neg h6,if_neg h7,if_neg h8,if_neg h9,if_neg h10]
  rfl
 ·right
  rw [b]
  have hs:nms[k]=s:=by simpa using a
  have hk':k<10:=hk
  unfold impl_speciesShade impl_SpeciesData
  have hc:k=0∨k=1∨k=2∨k=3∨k=4∨k=5∨k=6∨k=7∨k=8∨k=9:=by omega
  rcases hc with rfl | rfl | rfl | rfl | rfl | rfl | rfl | rfl | rfl | rfl
  ·rw [←hs];exact ⟨0,20,_,_,rfl,rfl,rfl,rfl,by decide,by decide,by rw [show nms[0]=(⟨#[97,115,104]⟩:ByteArray) from rfl,if_pos rfl];rfl⟩
  ·rw [←hs];exact ⟨1,35,_,_,rfl,rfl,rfl,rfl,by decide,by decide,by rw [show nms[1]=(⟨#[98,101,101,99,104]⟩:ByteArray) from rfl,if_neg (bne_of (by decide)),if_pos rfl];rfl⟩
  ·rw [←hs];exact ⟨2,15,_,_,rfl,rfl,rfl,rfl,by decide,by decide,by rw [show nms[2]=(⟨#[98,105,114,99,104]⟩:ByteArray) from rfl,if_neg (bne_of (by decide)),if_neg (bne_of (by decide)),if_pos rfl];rfl⟩
  ·rw [←hs];exact ⟨3,50,_,_,rfl,rfl,rfl,rfl,by decide,by decide,by rw [show nms[3]=(⟨#[99,104,101,114,114,121]⟩:ByteArray) from rfl,if_neg (bne_of (by decide)),if_neg (bne_of (by decide)),if_neg (bne_of (by decide)),if_pos rfl];rfl⟩
  ·rw [←hs];exact ⟨4,95,_,_,rfl,rfl,rfl,rfl,by decide,by decide,by rw [show nms[4]=(⟨#[101,98,111,110,121]⟩:ByteArray) from rfl,if_neg (bne_of (by decide)),if_neg (bne_of (by decide)),if_neg (bne_of (by decide)),if_neg (bne_of (by decide)),if_pos rfl];rfl⟩
  ·rw [←hs];exact ⟨5,5,_,_,rfl,rfl,rfl,rfl,by decide,by decide,by rw [show nms[5]=(⟨#[104,111,108,108,121]⟩:ByteArray) from rfl,if_neg (bne_of (by decide)),if_neg (bne_of (by decide)),if_neg (bne_of (by decide)),if_neg (bne_of (by decide)),if_neg (bne_of (by decide)),if_pos rfl];rfl⟩
  ·rw [←hs];exact ⟨6,10,_,_,rfl,rfl,rfl,rfl,by decide,by decide,by rw [show nms[6]=(⟨#[109,97,112,108,101]⟩:ByteArray) from rfl,if_neg (bne_of (by decide)),if_neg (bne_of (by decide)),if_neg (bne_of (by decide)),if_neg (bne_of (by decide)),if_neg (bne_of (by decide)),if_neg (bne_of (by decide)),if_pos rfl];rfl⟩
  ·rw [←hs];exact ⟨7,40,_,_,rfl,rfl,rfl,rfl,by decide,by decide,by rw [show nms[7]=(⟨#[111,97,107]⟩:ByteArray) from rfl,if_neg (bne_of (by decide)),if_neg (bne_of (by decide)),if_neg (bne_of (by decide)),if_neg (bne_of (by decide)),if_neg (bne_of (by decide)),if_neg (bne_of (by decide)),if_neg (bne_of (by decide)),if_pos rfl];rfl⟩
  ·rw [←hs];exact ⟨8,80,_,_,rfl,rfl,rfl,rfl,by decide,by decide,by rw [show nms[8]=(⟨#[114,111,115,101,119,111,111,100]⟩:ByteArray) from rfl,if_neg (bne_of (by decide)),if_neg (bne_of (by decide)),if_neg (bne_of (by decide)),if_neg (bne_of (by decide)),if_neg (bne_of (by decide)),if_neg (bne_of (by decide)),if_neg (bne_of (by decide)),if_neg (bne_of (by decide)),if_pos rfl];rfl⟩
  ·rw [←hs];exact ⟨9,70,_,_,rfl,rfl,rfl,rfl,by decide,by decide,by rw [show nms[9]=(⟨#[119,97,108,110,117,116]⟩:ByteArray) from rfl,if_neg (bne_of (by decide)),if_neg (bne_of (by decide)),if_neg (bne_of (by decide)),if_neg (bne_of (by decide)),if_neg (bne_of (by decide)),if_neg (bne_of (by decide)),if_neg (bne_of (by decide)),if_neg (bne_of (by decide)),if_neg (bne_of (by decide)),if_pos rfl];rfl⟩
theorem ven_eq (x:S_Veneer):∃v,spec_l07Ok x=some v∧impl_ValidVeneer x=some v:=by
 unfold spec_l07Ok impl_ValidVeneer
 rcases species x.Species with ⟨h1,h2⟩ | ⟨k,b,tb,row,h1,h2,h3,h4,h5,h6,h7⟩
 ·rw [h1,h2];exact ⟨false,rfl,rfl⟩
 ·rw [h1,h7,h2]
  simp only [Option.bind_some,h3,h4,in_eq,within_eq,if_true,spec_l07Grain]
  rw [if_neg (show ¬(k:Int) <0 by omega),w64_id (n:=b - 15) (by omega) (by omega),w64_id (n:=b+15) (by omega) (by omega)]
  by_cases c:0≤x.Shade∧x.Shade≤100
  ·rw [w64_id (n:=x.Shade - b) (by omega) (by omega),decide_eq_true c]
   have e:decide (b - 15≤x.Shade∧x.Shade≤b+15)=decide (-15≤x.Shade - b∧x.Shade - b≤15):=decide_eq_decide.2 ⟨fun h=>by omega,fun h=>by omega⟩
   rw [e]
   cases decide (-15≤x.Shade - b∧x.Shade - b≤15)<;>exact ⟨_,rfl,rfl⟩
  ·rw [decide_eq_false c]
   exact ⟨false,rfl,rfl⟩
noncomputable def venV (x:S_Veneer):Bool:=(spec_l07Ok x).getD false
theorem ven_s (x:S_Veneer):spec_l07Ok x=some (venV x):=by
 obtain ⟨v,h,_⟩:=ven_eq x
 unfold venV
 rw [h];rfl
theorem ven_i (x:S_Veneer):impl_ValidVeneer x=some (venV x):=by
 obtain ⟨v,h,h2⟩:=ven_eq x
 unfold venV
 rw [h,h2];rfl
theorem mk_textL:∀(n:Nat) (k:Int) (out:ByteArray),k.toNat≤n→out.size+k.toNat≤4611686018427387904→∃r,loopO laws_markText_l4 (k,out)=some r∧r.size≤out.size+k.toNat:=by
 intro n
 induction n with
 | zero=>
  intro k out h1 h2
  refine ⟨out,loopO_done ?_,by omega⟩
  unfold laws_markText_l4
  simp only
  rw [if_neg (by omega)]
 | succ n ih=>
  intro k out h1 h2
  by_cases c:k>0
  ·have e1:w64 (k.tdiv 10)=k.tdiv 10:=by
    rw [Int.tdiv_eq_ediv_of_nonneg (by omega)]
    exact w64_id (by omega) (by omega)
   have e2:k.tdiv 10=k / 10:=Int.tdiv_eq_ediv_of_nonneg (by omega)
   have hs:∀x:Int,(strOf [x]).size=1:=fun x=>rfl
   obtain ⟨r,hr,hr2⟩:=ih (k / 10) (strOf [IntKind.wrap .u8 (w64 (48+k.tmod 10))]++out) (by omega) (by rw [ByteArray.size_append,hs];omega)
   refine ⟨r,?_,?_⟩
   ·rw [loopO_next (s':=(k / 10,strOf [IntKind.wrap .u8 (w64 (48+k.tmod 10))]++out)) ?_]
    ·exact hr
    ·unfold laws_markText_l4 md dv
     simp only
     rw [if_pos c,if_neg (by decide),Option.bind_some,cat_some (by rw [hs];omega),Option.bind_some,if_neg (by decide),Option.bind_some]
     have e3:IntKind.wrap .i64 (k.tdiv 10)=k / 10:=by rw [←e2];exact e1
     rw [e3]
   ·rw [ByteArray.size_append,hs] at hr2
    omega
  ·refine ⟨out,loopO_done ?_,by omega⟩
   unfold laws_markText_l4
   simp only
   rw [if_neg c]
theorem mk_text (k:Int) (h:k≤2305843009213693952):∃r,laws_markText k=some r:=by
 unfold laws_markText
 split
 ·exact ⟨_,rfl⟩
 ·obtain ⟨r,hr,hr2⟩:=mk_textL k.toNat k ⟨#[]⟩ (Nat.le_refl _) (by show 0+_≤_;omega)
  have h0:(⟨#[]⟩:ByteArray).size=0:=rfl
  have h1:(⟨#[109]⟩:ByteArray).size=1:=rfl
  rw [hr,Option.bind_some,cat_some (by rw [h1];omega),Option.bind_some]
  exact ⟨_,rfl⟩
theorem mr_mark (l:List Int) (h:l.length≤1073741824):laws_markInt64S l 1=some (1+(l.length:Int),iota 1 l.length):=by
 unfold laws_markInt64S
 rw [markInt (f:=laws_markInt64S_l2) l (k:=1) (by omega) (by omega) ?_ ?_]
 ·rfl
 ·intro k i out hi
  unfold laws_markInt64S_l2
  simp only
  rw [if_pos (by omega),rd_lt hi]
  simp
 ·intro k out
  unfold laws_markInt64S_l2
  simp
theorem mr_held (n:Nat) (h:n≤1073741824):laws_heldInt64S (iota 1 n) 1=some (1+(n:Int)):=by
 unfold laws_heldInt64S
 rw [heldInt (f:=laws_heldInt64S_l2 (iota 1 n)) (n:=n) (k:=1) (by omega) (by omega) ?_ ?_]
 ·rfl
 ·intro i hi
  unfold laws_heldInt64S_l2
  simp only
  rw [if_pos (by rw [iota_length];omega),rd_nat,iota_get _ _ _ hi]
  simp
 ·unfold laws_heldInt64S_l2
  simp [iota_length]
theorem mr_eq (l:List Int) (h:l.length≤1073741824):laws_eqInt64S l l=some true:=by
 unfold laws_eqInt64S
 rw [if_neg (by simp),eqS_refl (n:=l.length) (by omega) (fun i hi=>?_) ?_]
 ·rfl
 ·unfold laws_eqInt64S_l4
  rw [if_neg (by omega)]
 ·unfold laws_eqInt64S_l4
  rw [if_pos (by omega),rd_lt hi,Option.bind_some,Option.bind_some]
  simp
def Lo (x:S_Loss):Prop:=0≤x.Cost∧x.Cost≤1000000∧0≤x.Minutes∧x.Minutes≤10000∧1≤x.Priority∧x.Priority≤9
theorem loss_eq (x:S_Loss):spec_l25One x=impl_ValidLoss x:=by
 unfold spec_l25One impl_ValidLoss
 rw [nm]
 simp only [ven_s,ven_i,in_eq,within_eq]
theorem loss_some (x:S_Loss):∃v:Bool,impl_ValidLoss x=some v∧(v=true→Lo x):=by
 obtain ⟨n,_,n2⟩:=name_eq x.Name
 unfold impl_ValidLoss Lo
 rw [n2,ven_i]
 simp only [within_eq,Option.bind_some]
 cases n with
 | false=>exact ⟨false,rfl,fun h=>by cases h⟩
 | true=>
  cases venV x.Veneer with
  | false=>exact ⟨false,rfl,fun h=>by cases h⟩
  | true=>
   by_cases c1:1≤x.Area∧x.Area≤400000000
   ·by_cases c2:1≤x.Priority∧x.Priority≤9
    ·by_cases c3:0≤x.Cost∧x.Cost≤1000000
     ·by_cases c4:0≤x.Minutes∧x.Minutes≤10000
      ·rw [decide_eq_true c1,decide_eq_true c2,decide_eq_true c3,decide_eq_true c4]
       exact ⟨true,rfl,fun _=>⟨c3.1,c3.2,c4.1,c4.2,c2.1,c2.2⟩⟩
      ·rw [decide_eq_true c1,decide_eq_true c2,decide_eq_true c3,decide_eq_false c4]
       exact ⟨false,rfl,fun h=>by cases h⟩
     ·rw [decide_eq_true c1,decide_eq_true c2,decide_eq_false c3]
      exact ⟨false,rfl,fun h=>by cases h⟩
    ·rw [decide_eq_true c1,decide_eq_false c2]
     exact ⟨false,rfl,fun h=>by cases h⟩
   ·rw [decide_eq_false c1]
    exact ⟨false,rfl,fun h=>by cases h⟩
theorem ok_eq (l:List S_Loss):spec_l25Ok l=impl_ValidLosses l:=by
 have e:spec_l25Ok_l2 l=impl_ValidLosses_l2 l:=by
  funext i
  unfold spec_l25Ok_l2 impl_ValidLosses_l2
  by_cases c:i< (l.length:Int)
  ·rw [if_pos c,if_pos c]
   cases h:rd l i with
   | none=>rfl
   | some x=>simp only [Option.bind_some,loss_eq]
  ·rw [if_neg c,if_neg c]
 unfold spec_l25Ok impl_ValidLosses
 rw [e]
theorem losses_some (l:List S_Loss) (hl:l.length≤1048576):∃v:Bool,impl_ValidLosses l=some v∧(v=true→l.length≤16∧∀f∈l,Lo f):=by
 unfold impl_ValidLosses
 rcases validL (f:=impl_ValidLosses_l2 l) l Lo (by omega) (fun i hi=>by
  obtain ⟨v,v1,v2⟩:=loss_some l[i]
  unfold impl_ValidLosses_l2
  rw [if_pos (by omega),rd_lt hi,Option.bind_some,v1,Option.bind_some]
  cases v with
  | false=>exact .inr rfl
  | true=>
   rw [if_pos rfl]
   by_cases c0:(i:Int) >0
   ·rw [if_pos c0,w64_pred (by omega) (by omega),rd_lt (show i - 1<l.length by omega)]
    simp only [Option.bind_some]
    cases Op.bytesLess (l[i - 1]'(by omega)).Name.toList l[i].Name.toList with
    | true=>exact .inl ⟨rfl,v2 rfl⟩
    | false=>exact .inr rfl
   ·rw [if_neg c0]
    exact .inl ⟨rfl,v2 rfl⟩) (by
  unfold impl_ValidLosses_l2
  rw [if_neg (by omega)]) with ⟨q1,q2⟩ | q
 ·rw [q1]
  refine ⟨_,rfl,fun h=>⟨?_,q2⟩⟩
  have:=of_decide_eq_true h
  omega
 ·rw [q]
  exact ⟨false,rfl,fun h=>by cases h⟩
abbrev FV:=(S_l25Search×Int×Int×Int×Int)→Option S_l25Search
theorem fs_v (x:S_l25Search) (a b c d:Int):Fs (fun self:FV=>spec_l25Search_visit_F self x a b c d):=by
 have lp:∀s,Fs (fun self:FV=>loopO (spec_l25Search_visit_l6 self d c b) s):=fun s=>Fs.loop (fun s=>by
  obtain ⟨a1,a2,a3,a4,a5,a6,a7⟩:=s
  unfold spec_l25Search_visit_l6 spec_l25Search_visit_k7
  exact Fs.ite (Fs.bind (Fs.const _) fun _=>Fs.ite (Fs.const _) (Fs.bind (Fs.const _) fun _=>Fs.bind (Fs.app _) fun _=>Fs.bind (Fs.const _) fun _=>Fs.const _)) (Fs.const _)) s
 unfold spec_l25Search_visit_F spec_l25Search_visit_k5
 exact Fs.ite (Fs.const _) (Fs.ite (Fs.bind (Fs.const _) fun _=>Fs.bind (lp _) fun _=>Fs.const _) (Fs.bind (lp _) fun _=>Fs.const _))
noncomputable abbrev SV:FV:=fun s=>spec_l25Search_visit s.1 s.2.1 s.2.2.1 s.2.2.2.1 s.2.2.2.2
theorem visit_eq (x:S_l25Search) (a b c d:Int):spec_l25Search_visit x a b c d=spec_l25Search_visit_F SV x a b c d:=by
 show fixO _ _=_
 rw [fixO_eq]
 ·rfl
 ·rintro ⟨x,a,b,c,d⟩
  exact fs_v x a b c d
abbrev FR:=(S_repairSearch×List Int×Int×Int×Int×Int)→Option (Bool×S_repairSearch)
theorem fs_r (x:S_repairSearch) (F:List Int) (a b c d:Int):Fs (fun self:FR=>impl_repairSearch_run_F self x F a b c d):=by
 have lp:∀s,Fs (fun self:FR=>loopO (impl_repairSearch_run_l7 self F d c b) s):=fun s=>Fs.loop (fun s=>by
  obtain ⟨a1,a2,a3,a4,a5⟩:=s
  unfold impl_repairSearch_run_l7 impl_repairSearch_run_k8
  exact Fs.ite (Fs.bind (Fs.const _) fun _=>Fs.ite (Fs.const _) (Fs.bind (Fs.const _) fun _=>Fs.bind (Fs.const _) fun _=>Fs.bind (Fs.app _) fun _=>Fs.ite (Fs.const _) (Fs.const _))) (Fs.const _)) s
 unfold impl_repairSearch_run_F impl_repairSearch_run_k6
 exact Fs.ite (Fs.const _) (Fs.ite (Fs.bind (lp _) fun _=>Fs.const _) (Fs.bind (lp _) fun _=>Fs.const _))
noncomputable abbrev SR:FR:=fun s=>impl_repairSearch_run s.1 s.2.1 s.2.2.1 s.2.2.2.1 s.2.2.2.2.1 s.2.2.2.2.2
theorem run_eq (x:S_repairSearch) (F:List Int) (a b c d:Int):impl_repairSearch_run x F a b c d=impl_repairSearch_run_F SR x F a b c d:=by
 show fixO _ _=_
 rw [fixO_eq]
 ·rfl
 ·rintro ⟨x,F,a,b,c,d⟩
  exact fs_r x F a b c d
section
variable {L:List S_Loss}
theorem over_loop (hL:∀x∈L,Lo x) (hl:L.length≤16) {B:Int} (hB0:0≤B) (hB:B≤20000) {F:List Int} (hF:F.length≤16) {sum money minutes:Int} (hm0:0≤money) (hm1:money≤16000000) (hn0:0≤minutes) (hn1:minutes≤160000):
 ∀(k i:Nat) (best:List Int) (most n:Int),i+k=L.length→B≤n→n+k≤B+100000→
  ∃n',loopO (spec_l25Search_visit_l6 SV minutes money sum) ((i:Int),L,F,best,most,n,B)=some ⟨L,F,best,most,n',B⟩∧n≤n'∧n'≤n+k:=by
 intro k
 induction k with
 | zero=>
  intro i best most n hi h0 h1
  refine ⟨n,loopO_done ?_,Int.le_refl _,by omega⟩
  unfold spec_l25Search_visit_l6
  simp only
  rw [if_neg (by omega)]
 | succ k ih=>
  intro i best most n hi h0 h1
  have hi':i<L.length:=by omega
  by_cases c:L[i].Cost>money∨L[i].Minutes>minutes
  ·obtain ⟨n',q1,q2,q3⟩:=ih (i+1) best most n (by omega) h0 (by omega)
   refine ⟨n',?_,q2,by omega⟩
   rw [loopO_next (s':=(((i+1:Nat):Int),L,F,best,most,n,B))]
   ·exact q1
   ·unfold spec_l25Search_visit_l6 spec_l25Search_visit_k7
    simp only
    rw [if_pos (by omega),rd_lt hi',Option.bind_some,if_pos c,w64_succ (by omega)]
  ·obtain ⟨n',q1,q2,q3⟩:=ih (i+1) best most (n+1) (by omega) (by omega) (by omega)
   refine ⟨n',?_,by omega,by omega⟩
   rw [loopO_next (s':=(((i+1:Nat):Int),L,F,best,most,n+1,B))]
   ·exact q1
   ·have hv:∀a b c d,SV (⟨L,F++[(i:Int)],best,most,n,B⟩,a,b,c,d)=some ⟨L,F++[(i:Int)],best,most,n+1,B⟩:=by
     intro a b c d
     show spec_l25Search_visit _ _ _ _ _=_
     rw [visit_eq]
     unfold spec_l25Search_visit_F
     simp only
     rw [w64_id (n:=n+1) (by omega) (by omega),if_pos (by omega)]
    unfold spec_l25Search_visit_l6 spec_l25Search_visit_k7
    simp only
    rw [if_pos (by omega),rd_lt hi',Option.bind_some,if_neg c,apd1 (by omega),Option.bind_some,hv,Option.bind_some]
    have hl2:(((F++[(i:Int)]).length:Int) - 1)=(F.length:Int):=by rw [List.length_append,List.length_singleton];omega
    simp only [hl2]
    rw [w64_id (n:=(F.length:Int)) (by omega) (by omega)]
    unfold slc
    rw [if_pos ⟨by omega,by omega,by rw [List.length_append];omega⟩,Option.bind_some,w64_succ (by omega),List.drop_zero,show ((F.length:Int)).toNat=F.length from rfl,List.take_left]
theorem rp_run (hL:∀x∈L,Lo x) (hl:L.length≤16) {B:Int} (hB0:0≤B) (hB:B≤20000):
 ∀(m fr:Nat) (F best:List Int) (most n sum money minutes:Int),fr+m=L.length→F.length≤fr→0≤n→n≤B→0≤money→money≤16000000→0≤minutes→minutes≤160000→0≤sum→sum≤9*fr→best.length≤16→
  ∃best' most' n' full s',spec_l25Search_visit ⟨L,F,best,most,n,B⟩ (fr:Int) sum money minutes=some ⟨L,F,best',most',n',B⟩∧impl_repairSearch_run ⟨L,B - n,best,most⟩ F (fr:Int) sum money minutes=some (full,s')∧
   n<n'∧n'≤B+17* (m+1)∧best'.length≤16∧((full=true∧n'>B)∨(full=false∧n'≤B∧s'=⟨L,B - n',best',most'⟩)):=by
 intro m
 induction m using Nat.strongRecOn with
 | _ m ih=>
  intro fr F best most n sum money minutes hfr hF h0 h1 hm0 hm1 hn0 hn1 hs0 hs1 hb
  rw [visit_eq,run_eq]
  unfold spec_l25Search_visit_F impl_repairSearch_run_F spec_l25Search_visit_k5 impl_repairSearch_run_k6
  simp only
  rw [w64_id (n:=n+1) (by omega) (by omega)]
  by_cases cB:n+1>B
  ·rw [if_pos cB,if_pos (show B - n=0 by omega)]
   exact ⟨best,most,n+1,true,_,rfl,rfl,by omega,by omega,hb,.inl ⟨rfl,cB⟩⟩
  ·rw [if_neg cB,if_neg (show ¬B - n=0 by omega),w64_id (n:=B - n - 1) (by omega) (by omega)]
   have lp:∀(k i:Nat) (best:List Int) (most n:Int),i+k=L.length→k≤m→fr≤i→0≤n→n≤B→best.length≤16→
    ∃best' most' n',loopO (spec_l25Search_visit_l6 SV minutes money sum) ((i:Int),L,F,best,most,n,B)=some ⟨L,F,best',most',n',B⟩∧n≤n'∧n'≤B+17* (k+1)∧best'.length≤16∧
     ((n'>B∧∃s',loopO (impl_repairSearch_run_l7 SR F minutes money sum) ((i:Int),L,B - n,best,most)=some (.inr (true,s')))∨(n'≤B∧loopO (impl_repairSearch_run_l7 SR F minutes money sum) ((i:Int),L,B - n,best,most)=some (.inl (L,B - n',best',most')))):=by
    intro k
    induction k with
    | zero=>
     intro i best most n hi hk hfi g0 g1 gb
     refine ⟨best,most,n,loopO_done ?_,Int.le_refl _,by omega,gb,.inr ⟨g1,loopO_done ?_⟩⟩
     ·unfold spec_l25Search_visit_l6
      simp only
      rw [if_neg (by omega)]
     ·unfold impl_repairSearch_run_l7
      simp only
      rw [if_neg (by omega)]
    | succ k ihk=>
     intro i best most n hi hk hfi g0 g1 gb
     have hi':i<L.length:=by omega
     obtain ⟨l1,l2,l3,l4,l5,l6⟩:=hL _ (List.getElem_mem hi')
     by_cases c:L[i].Cost>money∨L[i].Minutes>minutes
     ·have s1:spec_l25Search_visit_l6 SV minutes money sum ((i:Int),L,F,best,most,n,B)=some (.inl (((i+1:Nat):Int),L,F,best,most,n,B)):=by
       unfold spec_l25Search_visit_l6 spec_l25Search_visit_k7
       simp only
       rw [if_pos (by omega),rd_lt hi',Option.bind_some,if_pos c,w64_succ (by omega)]
      have s2:impl_repairSearch_run_l7 SR F minutes money sum ((i:Int),L,B - n,best,most)=some (.inl (((i+1:Nat):Int),L,B - n,best,most)):=by
       unfold impl_repairSearch_run_l7 impl_repairSearch_run_k8
       simp only
       rw [if_pos (by omega),rd_lt hi',Option.bind_some,if_pos c,w64_succ (by omega)]
      obtain ⟨b',m',n',q1,q2,q3,q4,q5⟩:=ihk (i+1) best most n (by omega) (by omega) (by omega) g0 g1 gb
      rw [loopO_next s1,loopO_next s2]
      exact ⟨b',m',n',q1,q2,by omega,q4,q5⟩
     ·obtain ⟨b2,m2,n2,full,s',p1,p2,p3,p4,p5,p6⟩:=ih k (by omega) (i+1) (F++[(i:Int)]) best most n (sum+L[i].Priority) (money - L[i].Cost) (minutes - L[i].Minutes) (by omega) (by rw [List.length_append,List.length_singleton];omega) g0 g1 (by omega) (by omega) (by omega) (by omega) (by omega) (by omega) gb
      have s1:spec_l25Search_visit_l6 SV minutes money sum ((i:Int),L,F,best,most,n,B)=some (.inl (((i+1:Nat):Int),L,F,b2,m2,n2,B)):=by
       unfold spec_l25Search_visit_l6 spec_l25Search_visit_k7
       simp only
       have e:SV (⟨L,F++[(i:Int)],best,most,n,B⟩,((i+1:Nat):Int),sum+L[i].Priority,money - L[i].Cost,minutes - L[i].Minutes)=some ⟨L,F++[(i:Int)],b2,m2,n2,B⟩:=p1
       rw [if_pos (by omega),rd_lt hi',Option.bind_some,if_neg c,apd1 (by omega),Option.bind_some,w64_succ (by omega),w64_id (n:=sum+L[i].Priority) (by omega) (by omega),w64_id (n:=money - L[i].Cost) (by omega) (by omega),w64_id (n:=minutes - L[i].Minutes) (by omega) (by omega),e,Option.bind_some]
       have hl2:(((F++[(i:Int)]).length:Int) - 1)=(F.length:Int):=by rw [List.length_append,List.length_singleton];omega
       simp only [hl2]
       rw [w64_id (n:=(F.length:Int)) (by omega) (by omega)]
       unfold slc
       rw [if_pos ⟨by omega,by omega,by rw [List.length_append];omega⟩,Option.bind_some,List.drop_zero,show ((F.length:Int)).toNat=F.length from rfl,List.take_left]
      have s2:impl_repairSearch_run_l7 SR F minutes money sum ((i:Int),L,B - n,best,most)=if full=true then some (.inr (.inr (true,s'))) else some (.inl (((i+1:Nat):Int),s'.list,s'.left,s'.best,s'.most)):=by
       unfold impl_repairSearch_run_l7 impl_repairSearch_run_k8
       simp only
       have e:SR (⟨L,B - n,best,most⟩,F++[(i:Int)],((i+1:Nat):Int),sum+L[i].Priority,money - L[i].Cost,minutes - L[i].Minutes)=some (full,s'):=p2
       rw [if_pos (by omega),rd_lt hi',Option.bind_some,if_neg c,apd0 (by omega),Option.bind_some,apd1 (by omega),Option.bind_some,w64_succ (by omega),w64_id (n:=sum+L[i].Priority) (by omega) (by omega),w64_id (n:=money - L[i].Cost) (by omega) (by omega),w64_id (n:=minutes - L[i].Minutes) (by omega) (by omega),e,Option.bind_some]
      rcases p6 with ⟨rfl,p6⟩ | ⟨rfl,p6,rfl⟩
      ·rw [if_pos rfl] at s2
       obtain ⟨n',q1,q2,q3⟩:=over_loop hL hl hB0 hB (F:=F) (by omega) (sum:=sum) hm0 hm1 hn0 hn1 k (i+1) b2 m2 n2 (by omega) (by omega) (by omega)
       exact ⟨b2,m2,n',by rw [loopO_next s1];exact q1,by omega,by omega,p5,.inl ⟨by omega,s',loopO_done s2⟩⟩
      ·rw [if_neg (by decide)] at s2
       obtain ⟨b',m',n',q1,q2,q3,q4,q5⟩:=ihk (i+1) b2 m2 n2 (by omega) (by omega) (by omega) (by omega) p6 p5
       rw [loopO_next s1,loopO_next s2]
       exact ⟨b',m',n',q1,by omega,by omega,q4,q5⟩
   have fin:∀(best0:List Int) (most0:Int),best0.length≤16→
    ∃best' most' n' full s',(loopO (spec_l25Search_visit_l6 SV minutes money sum) ((fr:Int),L,F,best0,most0,n+1,B)).bind (fun r2=>some r2)=some ⟨L,F,best',most',n',B⟩∧
     ((loopO (impl_repairSearch_run_l7 SR F minutes money sum) ((fr:Int),L,B - n - 1,best0,most0)).bind fun o=>match o with
       | (.inl (s_o0_0_e0_7,s_o0_1_e0_7,s_o0_2_e0_7,s_o0_3_e0_7))=>(some (false,(⟨s_o0_0_e0_7,s_o0_1_e0_7,s_o0_2_e0_7,s_o0_3_e0_7⟩:S_repairSearch)))
       | (.inr r2)=>(some r2))=some (full,s')∧n<n'∧n'≤B+17* (m+1)∧best'.length≤16∧((full=true∧n'>B)∨(full=false∧n'≤B∧s'=⟨L,B - n',best',most'⟩)):=by
    intro best0 most0 hb0
    obtain ⟨b',m',n',q1,q2,q3,q4,q5⟩:=lp m fr best0 most0 (n+1) hfr (Nat.le_refl _) (Nat.le_refl _) (by omega) (by omega) hb0
    have e:B - n - 1=B - (n+1):=by omega
    rw [q1,e]
    rcases q5 with ⟨q5,s',q6⟩ | ⟨q5,q6⟩
    ·rw [q6]
     exact ⟨b',m',n',true,s',rfl,rfl,by omega,q3,q4,.inl ⟨rfl,q5⟩⟩
    ·rw [q6]
     exact ⟨b',m',n',false,_,rfl,rfl,by omega,q3,q4,.inr ⟨rfl,q5,rfl⟩⟩
   by_cases cs:sum>most
   ·rw [if_pos cs,if_pos cs]
    unfold spec_l00Own
    rw [apd0 (by omega)]
    simp only [Option.bind_some]
    exact fin F sum (by omega)
   ·rw [if_neg cs,if_neg cs]
    exact fin best most hb
end
theorem bq_same {L:List S_Loss} (hl:L.length≤1048576) (money minutes B:Int):∃r s c,spec_BestRepairs L money minutes B=some (r,s,c)∧impl_BestRepairs L money minutes B=some (r,s,c)∧r.length≤16:=by
 obtain ⟨v,v1,v2⟩:=losses_some L hl
 unfold spec_BestRepairs impl_BestRepairs impl_repairsCode spec_l25Limits
 rw [ok_eq,v1]
 simp only [in_eq,within_eq,Option.bind_some]
 cases v with
 | false=>exact ⟨[],0,1,by simp,by simp,by simp⟩
 | true=>
  obtain ⟨t1,t2⟩:=v2 rfl
  by_cases c1:1≤B∧B≤20000
  ·by_cases c2:0≤money∧money≤16000000
   ·by_cases c3:0≤minutes∧minutes≤160000
    ·rw [decide_eq_true c1,decide_eq_true c2,decide_eq_true c3]
     obtain ⟨b',m',n',full,s',p1,p2,p3,p4,p5,p6⟩:=rp_run t2 t1 (by omega) c1.2 L.length 0 [] [] 0 0 0 money minutes (by omega) (by simp) (by omega) (by omega) c2.1 c2.2 c3.1 c3.2 (by omega) (by omega) (by simp)
     have p1:spec_l25Search_visit ⟨L,[],[],0,0,B⟩ 0 0 money minutes=_:=p1
     have p2:impl_repairSearch_run ⟨L,B - 0,[],0⟩ [] 0 0 money minutes=_:=p2
     rw [Int.sub_zero] at p2
     simp only [if_true,Bool.not_true,Option.bind_some,Bool.false_eq_true,if_false,ne_eq,not_true,p1,p2]
     rcases p6 with ⟨rfl,p6⟩ | ⟨rfl,p6,rfl⟩
     ·exact ⟨[],0,5,by rw [if_pos p6],by rw [if_pos rfl],by simp⟩
     ·refine ⟨b',m',0,?_,by rw [if_neg (by decide)],p5⟩
      rw [if_neg (by omega)]
      unfold spec_l00Own
      rw [apd0 (by omega)]
      rfl
    ·rw [decide_eq_true c1,decide_eq_true c2,decide_eq_false c3]
     exact ⟨[],0,2,by simp,by simp,by simp⟩
   ·rw [decide_eq_true c1,decide_eq_false c2]
    exact ⟨[],0,2,by simp,by simp,by simp⟩
  ·rw [decide_eq_false c1]
   exact ⟨[],0,2,by simp,by simp,by simp⟩
theorem bq_markL (l:List S_Loss) (h:l.length≤1048576) {k0:Int} (h0:0≤k0) (h1:k0≤1048576):∃k' out',laws_markLossS l k0=some (k',out')∧k0≤k':=by
 unfold laws_markLossS
 obtain ⟨k',out',q1,q2,q3⟩:=markL (f:=laws_markLossS_l2) (c:=8) 1073741824 (fun k i out hi hk1 hk2=>by
  have w0:w64 (k+1)=k+1:=by rw [w64_id (by omega) (by omega)]
  have w1:w64 (k+1+1)=k+2:=by rw [w64_id (by omega) (by omega)];omega
  have w2:w64 (k+2+1)=k+3:=by rw [w64_id (by omega) (by omega)];omega
  have w3:w64 (k+3+1)=k+4:=by rw [w64_id (by omega) (by omega)];omega
  have w4:w64 (k+4+1)=k+5:=by rw [w64_id (by omega) (by omega)];omega
  have w5:w64 (k+5+1)=k+6:=by rw [w64_id (by omega) (by omega)];omega
  have w6:w64 (k+6+1)=k+7:=by rw [w64_id (by omega) (by omega)];omega
  have w7:w64 (k+7+1)=k+8:=by rw [w64_id (by omega) (by omega)];omega
  obtain ⟨r0,hr0⟩:=mk_text k (by omega)
  obtain ⟨r1,hr1⟩:=mk_text (k+1) (by omega)
  have hget:∃o2,laws_markLossS_l2 (k,(i:Int),out)=some (.inl (k+8,w64 ((i:Int)+1),o2))∧o2.length=out.length:=by
   unfold laws_markLossS_l2
   simp only
   rw [if_pos (by omega)]
   simp only [rd_nat,Int.toNat_natCast,List.length_set,List.getElem?_set_self,List.getElem?_eq_getElem hi,hi,Option.bind_some,w0,w1,w2,w3,w4,w5,w6,w7,hr0,hr1]
   exact ⟨_,rfl,by simp⟩
  obtain ⟨o2,g1,g2⟩:=hget
  exact ⟨k+8,o2,g2,by omega,by omega,g1⟩) (fun k out=>by
  unfold laws_markLossS_l2
  simp only
  rw [if_neg (by omega)]) l h0 (by omega) (by omega)
 rw [q1]
 exact ⟨k',out',rfl,q2⟩
theorem law_BestRepairs (l:List S_Loss) (money minutes B:Int) (wl:(∀x∈l,wf_S_Loss x)∧l.length≤maxLen):laws_FnExactBestRepairs l money minutes B=some true:=by
 unfold laws_FnExactBestRepairs
 obtain ⟨v,v1,v2,v3⟩:=bq_szLossS l wl (left:=1048576) (by omega) (by omega)
 rw [v1,Option.bind_some]
 by_cases c1:v<0
 ·rw [if_pos c1]
 rw [if_neg c1]
 have hl:=v3.resolve_left c1
 obtain ⟨r,s,c,h1,h2,h3⟩:=bq_same hl.1 money minutes B
 obtain ⟨k',out',m1,m2⟩:=bq_markL l hl.1 (k0:=1) (by omega) (by omega)
 rw [bq_toLossS l hl]
 simp only [Option.bind_some,h1,h2,mr_eq r (by omega),bq_eqLossS l hl,m1,mr_mark r (by omega),mr_held r.length (by omega),not_true,ne_eq,or_self,if_false,if_true]
 rw [if_neg (show ¬k'<0 by omega)]
 simp
 rw [if_neg (by omega),if_neg (by omega)]
end Go.Pw
