/- The plain law of FnExactFirstShifts. Conditions: none. -/
import Derived.Test.YtfjmlccolihpmaaTfhT
import Derived.Test.YtfjmlccolihpmaaSimPe
import Derived.Test.YtfjmlccolihpmaaSimPn
import Derived.Test.YtfjmlccolihpmaaSimRh
namespace Go.Pw
open Go.Sim (min2 max2)
set_option linter.unusedVariables false
set_option linter.unusedSimpArgs false
theorem maxLen_eq:maxLen=9223372036854775807:=rfl
theorem fh_szN {α:Type} {f:Int×Int→Option ((Int×Int) ⊕ (Int ⊕ Int))} (l:List α) (B:α→Prop) (hl:l.length<4611686018427387904)
 (h1:∀(i:Nat) (hi:i<l.length) (u:Int),0≤u→u≤1048576→∃v,v≤u∧(v<0∨B l[i])∧f (u,(i:Int))=if v<0 then some (.inr (.inr (-1))) else some (.inl (v,w64 ((i:Int)+1))))
 (h2:∀u,f (u,(l.length:Int))=some (.inr (.inl u))) {left:Int} (h3:0≤left) (h4:left≤1048576):
 Ev (loopO f (left,0)) (fun r=>r= .inr (-1)∨∃v,r= .inl v∧0≤v∧v≤left∧∀x∈l,B x):=by
 refine Ev.loop (fun s=>∃i:Nat,s.2=(i:Int)∧i≤l.length∧0≤s.1∧s.1≤left∧∀x∈l.take i,B x) (fun s=>((l.length:Int) - s.2).toNat) ?_ ⟨0,rfl,Nat.zero_le _,h3,Int.le_refl _,fun x hx=>(by simp at hx)⟩
 rintro ⟨u,i⟩ ⟨j,rfl,j1,j2,j3,j4⟩
 simp only at j2 j3
 by_cases c:j<l.length
 ·obtain ⟨v,v1,v2,v3⟩:=h1 j c u j2 (by omega)
  rw [v3]
  refine Ev.ite (fun _=>Ev.ret (.inl rfl)) fun hv=>?_
  rw [w64_succ (by omega)]
  refine Ev.ret ⟨⟨j+1,rfl,by omega,by simp only;omega,by simp only;omega,fun x hx=>?_⟩,by simp only;omega⟩
  rw [List.take_succ_eq_append_getElem c] at hx
  rcases List.mem_append.1 hx with hx | hx
  ·exact j4 x hx
  ·rw [List.mem_singleton] at hx
   subst hx
   exact v2.resolve_left hv
 ·obtain rfl:j=l.length:=by omega
  rw [h2]
  exact Ev.ret (.inr ⟨u,rfl,j2,j3,by rwa [List.take_length] at j4⟩)
def wf_S_Point (x:S_Point):Prop:=(Lit.int .i64 x.X).wf=true∧(Lit.int .i64 x.Y).wf=true
def bd_S_Point (x:S_Point):Prop:=True∧True
theorem fh_toPoint (x:S_Point) (h:bd_S_Point x):laws_toPoint x=some x:=by
 unfold laws_toPoint
 rfl
theorem fh_eqPoint (x:S_Point) (h:bd_S_Point x):laws_eqPoint x x=some true:=by
 unfold laws_eqPoint
 simp []
theorem fh_szPointS (l:(List S_Point)) (h:((∀a∈l,wf_S_Point a)∧l.length≤maxLen)) {left:Int} (h0:0≤left) (h1:left≤1048576):Ev (laws_szPointS l left) (fun v=>v≤left∧(v<0∨(l.length≤1048576∧∀a∈l,bd_S_Point a))):=by
 obtain ⟨hw,hl⟩:=h
 rw [maxLen_eq] at hl
 unfold laws_szPointS
 rw [w64_id (n:=left - (l.length:Int)) (by omega) (by omega)]
 refine Ev.ite (fun _=>Ev.ret ⟨by omega,.inl (by omega)⟩) fun c=>?_
 exact Ev.ret ⟨by omega,.inr ⟨by omega,fun a _=>⟨trivial,trivial⟩⟩⟩
theorem fh_toPointS (l:(List S_Point)) (h:(l.length≤1048576∧∀a∈l,bd_S_Point a)):laws_toPointS l=some l:=by
 have hl:=h.1
 unfold laws_toPointS mkl
 rw [if_pos (by constructor<;>omega),Option.bind_some]
 rw [copyS (f:=laws_toPointS_l3 l) l _ (by simp) (by omega) ?_ ?_]
 ·rfl
 ·intro i hi out ho
  unfold laws_toPointS_l3
  simp only
  rw [if_pos (by omega),rd_lt hi,Option.bind_some,fh_toPoint l[i] (h.2 _ (List.getElem_mem hi)),Option.bind_some,rd_lt (by omega:i<out.length),Option.bind_some]
  simp
 ·intro out
  unfold laws_toPointS_l3
  simp
theorem fh_eqPointS (l:(List S_Point)) (h:(l.length≤1048576∧∀a∈l,bd_S_Point a)):laws_eqPointS l l=some true:=by
 have hl:=h.1
 unfold laws_eqPointS
 rw [if_neg (by simp),eqS_refl (n:=l.length) (by omega) ?_ ?_]
 ·rfl
 ·intro i hi
  unfold laws_eqPointS_l4
  rw [if_pos (by omega),rd_lt hi]
  simp only [Option.bind_some]
  rw [fh_eqPoint l[i] (h.2 _ (List.getElem_mem hi))]
  rfl
 ·unfold laws_eqPointS_l4
  rw [if_neg (by omega)]
theorem fh_szInt64S (l:(List Int)) (h:((∀a∈l,(Lit.int .i64 a).wf=true)∧l.length≤maxLen)) {left:Int} (h0:0≤left) (h1:left≤1048576):Ev (laws_szInt64S l left) (fun v=>v≤left∧(v<0∨(l.length≤1048576∧∀a∈l,True))):=by
 obtain ⟨hw,hl⟩:=h
 rw [maxLen_eq] at hl
 unfold laws_szInt64S
 rw [w64_id (n:=left - (l.length:Int)) (by omega) (by omega)]
 refine Ev.ite (fun _=>Ev.ret ⟨by omega,.inl (by omega)⟩) fun c=>?_
 exact Ev.ret ⟨by omega,.inr ⟨by omega,fun a _=>trivial⟩⟩
theorem fh_toInt64S (l:(List Int)) (h:(l.length≤1048576∧∀a∈l,True)):laws_toInt64S l=some l:=by
 have hl:=h.1
 unfold laws_toInt64S mkl
 rw [if_pos (by constructor<;>omega),Option.bind_some]
 rw [copyS (f:=laws_toInt64S_l3 l) l _ (by simp) (by omega) ?_ ?_]
 ·rfl
 ·intro i hi out ho
  unfold laws_toInt64S_l3
  simp only
  rw [if_pos (by omega),rd_lt hi,Option.bind_some,rd_lt (by omega:i<out.length),Option.bind_some]
  simp
 ·intro out
  unfold laws_toInt64S_l3
  simp
theorem fh_eqInt64S (l:(List Int)) (h:(l.length≤1048576∧∀a∈l,True)):laws_eqInt64S l l=some true:=by
 have hl:=h.1
 unfold laws_eqInt64S
 rw [if_neg (by simp),eqS_refl (n:=l.length) (by omega) ?_ ?_]
 ·rfl
 ·intro i hi
  unfold laws_eqInt64S_l4
  rw [if_pos (by omega),rd_lt hi]
  simp only [Option.bind_some]
  simp
 ·unfold laws_eqInt64S_l4
  rw [if_neg (by omega)]
def wf_S_Face (x:S_Face):Prop:=x.Name.size≤maxLen∧((∀a∈x.Ring,(Lit.int .i64 a).wf=true)∧x.Ring.length≤maxLen)
def bd_S_Face (x:S_Face):Prop:=x.Name.size≤1048576∧(x.Ring.length≤1048576∧∀a∈x.Ring,True)
theorem fh_szFace (x:S_Face) (h:wf_S_Face x) {left:Int} (h0:0≤left) (h1:left≤1048576):Ev (laws_szFace x left) (fun v=>v≤left∧(v<0∨bd_S_Face x)):=by
 obtain ⟨w0,w1⟩:=h
 unfold laws_szFace
 rw [maxLen_eq] at w0
 rw [w64_id (n:=left - (x.Name.size:Int)) (by omega) (by omega)]
 refine Ev.ite (fun _=>Ev.ret ⟨by omega,.inl (by omega)⟩) fun c0=>?_
 refine Ev.bind (fh_szInt64S x.Ring w1 (left:=left - (x.Name.size:Int)) (by omega) (by omega)) fun v1 q1=>?_
 refine Ev.ite (fun _=>Ev.ret ⟨by omega,.inl (by omega)⟩) fun c1=>?_
 exact Ev.ret ⟨by omega,.inr ⟨by omega,q1.2.resolve_left c1⟩⟩
theorem fh_toFace (x:S_Face) (h:bd_S_Face x):laws_toFace x=some x:=by
 unfold laws_toFace
 rw [fh_toInt64S x.Ring h.2,Option.bind_some]
theorem fh_eqFace (x:S_Face) (h:bd_S_Face x):laws_eqFace x x=some true:=by
 unfold laws_eqFace
 simp [fh_eqInt64S x.Ring (h.2)]
theorem fh_szFaceS (l:(List S_Face)) (h:((∀a∈l,wf_S_Face a)∧l.length≤maxLen)) {left:Int} (h0:0≤left) (h1:left≤1048576):Ev (laws_szFaceS l left) (fun v=>v≤left∧(v<0∨(l.length≤1048576∧∀a∈l,bd_S_Face a))):=by
 obtain ⟨hw,hl⟩:=h
 rw [maxLen_eq] at hl
 unfold laws_szFaceS
 rw [w64_id (n:=left - (l.length:Int)) (by omega) (by omega)]
 refine Ev.ite (fun _=>Ev.ret ⟨by omega,.inl (by omega)⟩) fun c=>?_
 refine Ev.bind (fh_szN (f:=laws_szFaceS_l5 l) l (fun a=>bd_S_Face a) (by omega) (fun i hi u hu1 hu2=>?_) (fun u=>?_) (left:=left - (l.length:Int)) (by omega) (by omega)) fun r hr=>?_
 ·
  obtain ⟨v,v1,v2,v3⟩:=fh_szFace l[i] (hw _ (List.getElem_mem hi)) hu1 hu2
  refine ⟨v,v2,v3,?_⟩
  unfold laws_szFaceS_l5
  simp only
  rw [if_pos (by omega),rd_lt hi,Option.bind_some,v1,Option.bind_some]
 ·unfold laws_szFaceS_l5
  simp only
  rw [if_neg (by omega)]
 ·rcases hr with rfl | ⟨v,rfl,g1,g2,g3⟩
  ·exact Ev.ret ⟨by omega,.inl (by omega)⟩
  ·exact Ev.ret ⟨by omega,.inr ⟨by omega,g3⟩⟩
theorem fh_toFaceS (l:(List S_Face)) (h:(l.length≤1048576∧∀a∈l,bd_S_Face a)):laws_toFaceS l=some l:=by
 have hl:=h.1
 unfold laws_toFaceS mkl
 rw [if_pos (by constructor<;>omega),Option.bind_some]
 rw [copyS (f:=laws_toFaceS_l3 l) l _ (by simp) (by omega) ?_ ?_]
 ·rfl
 ·intro i hi out ho
  unfold laws_toFaceS_l3
  simp only
  rw [if_pos (by omega),rd_lt hi,Option.bind_some,fh_toFace l[i] (h.2 _ (List.getElem_mem hi)),Option.bind_some,rd_lt (by omega:i<out.length),Option.bind_some]
  simp
 ·intro out
  unfold laws_toFaceS_l3
  simp
theorem fh_eqFaceS (l:(List S_Face)) (h:(l.length≤1048576∧∀a∈l,bd_S_Face a)):laws_eqFaceS l l=some true:=by
 have hl:=h.1
 unfold laws_eqFaceS
 rw [if_neg (by simp),eqS_refl (n:=l.length) (by omega) ?_ ?_]
 ·rfl
 ·intro i hi
  unfold laws_eqFaceS_l4
  rw [if_pos (by omega),rd_lt hi]
  simp only [Option.bind_some]
  rw [fh_eqFace l[i] (h.2 _ (List.getElem_mem hi))]
  rfl
 ·unfold laws_eqFaceS_l4
  rw [if_neg (by omega)]
def wf_S_Drawing (x:S_Drawing):Prop:=(Lit.int .i64 x.Width).wf=true∧(Lit.int .i64 x.Height).wf=true∧((∀a∈x.Points,wf_S_Point a)∧x.Points.length≤maxLen)∧((∀a∈x.Faces,wf_S_Face a)∧x.Faces.length≤maxLen)
def bd_S_Drawing (x:S_Drawing):Prop:=True∧True∧(x.Points.length≤1048576∧∀a∈x.Points,bd_S_Point a)∧(x.Faces.length≤1048576∧∀a∈x.Faces,bd_S_Face a)
theorem fh_szDrawing (x:S_Drawing) (h:wf_S_Drawing x) {left:Int} (h0:0≤left) (h1:left≤1048576):Ev (laws_szDrawing x left) (fun v=>v≤left∧(v<0∨bd_S_Drawing x)):=by
 obtain ⟨w0,w1,w2,w3⟩:=h
 unfold laws_szDrawing
 refine Ev.bind (fh_szPointS x.Points w2 (left:=left) (by omega) (by omega)) fun v2 q2=>?_
 refine Ev.ite (fun _=>Ev.ret ⟨by omega,.inl (by omega)⟩) fun c2=>?_
 refine Ev.bind (fh_szFaceS x.Faces w3 (left:=v2) (by omega) (by omega)) fun v3 q3=>?_
 refine Ev.ite (fun _=>Ev.ret ⟨by omega,.inl (by omega)⟩) fun c3=>?_
 exact Ev.ret ⟨by omega,.inr ⟨trivial,trivial,q2.2.resolve_left c2,q3.2.resolve_left c3⟩⟩
theorem fh_toDrawing (x:S_Drawing) (h:bd_S_Drawing x):laws_toDrawing x=some x:=by
 unfold laws_toDrawing
 rw [fh_toPointS x.Points h.2.2.1,Option.bind_some,fh_toFaceS x.Faces h.2.2.2,Option.bind_some]
theorem fh_eqDrawing (x:S_Drawing) (h:bd_S_Drawing x):laws_eqDrawing x x=some true:=by
 unfold laws_eqDrawing
 simp [fh_eqPointS x.Points (h.2.2.1),fh_eqFaceS x.Faces (h.2.2.2)]
def wf_S_Veneer (x:S_Veneer):Prop:=x.Species.size≤maxLen∧(Lit.int .i64 x.Shade).wf=true∧(Lit.int .i64 x.Grain).wf=true
def bd_S_Veneer (x:S_Veneer):Prop:=x.Species.size≤1048576∧True∧True
theorem fh_szVeneer (x:S_Veneer) (h:wf_S_Veneer x) {left:Int} (h0:0≤left) (h1:left≤1048576):Ev (laws_szVeneer x left) (fun v=>v≤left∧(v<0∨bd_S_Veneer x)):=by
 obtain ⟨w0,w1,w2⟩:=h
 unfold laws_szVeneer
 rw [maxLen_eq] at w0
 rw [w64_id (n:=left - (x.Species.size:Int)) (by omega) (by omega)]
 refine Ev.ite (fun _=>Ev.ret ⟨by omega,.inl (by omega)⟩) fun c0=>?_
 exact Ev.ret ⟨by omega,.inr ⟨by omega,trivial,trivial⟩⟩
theorem fh_toVeneer (x:S_Veneer) (h:bd_S_Veneer x):laws_toVeneer x=some x:=by
 unfold laws_toVeneer
 rfl
theorem fh_eqVeneer (x:S_Veneer) (h:bd_S_Veneer x):laws_eqVeneer x x=some true:=by
 unfold laws_eqVeneer
 simp []
theorem fh_szVeneerS (l:(List S_Veneer)) (h:((∀a∈l,wf_S_Veneer a)∧l.length≤maxLen)) {left:Int} (h0:0≤left) (h1:left≤1048576):Ev (laws_szVeneerS l left) (fun v=>v≤left∧(v<0∨(l.length≤1048576∧∀a∈l,bd_S_Veneer a))):=by
 obtain ⟨hw,hl⟩:=h
 rw [maxLen_eq] at hl
 unfold laws_szVeneerS
 rw [w64_id (n:=left - (l.length:Int)) (by omega) (by omega)]
 refine Ev.ite (fun _=>Ev.ret ⟨by omega,.inl (by omega)⟩) fun c=>?_
 refine Ev.bind (fh_szN (f:=laws_szVeneerS_l5 l) l (fun a=>bd_S_Veneer a) (by omega) (fun i hi u hu1 hu2=>?_) (fun u=>?_) (left:=left - (l.length:Int)) (by omega) (by omega)) fun r hr=>?_
 ·
  obtain ⟨v,v1,v2,v3⟩:=fh_szVeneer l[i] (hw _ (List.getElem_mem hi)) hu1 hu2
  refine ⟨v,v2,v3,?_⟩
  unfold laws_szVeneerS_l5
  simp only
  rw [if_pos (by omega),rd_lt hi,Option.bind_some,v1,Option.bind_some]
 ·unfold laws_szVeneerS_l5
  simp only
  rw [if_neg (by omega)]
 ·rcases hr with rfl | ⟨v,rfl,g1,g2,g3⟩
  ·exact Ev.ret ⟨by omega,.inl (by omega)⟩
  ·exact Ev.ret ⟨by omega,.inr ⟨by omega,g3⟩⟩
theorem fh_toVeneerS (l:(List S_Veneer)) (h:(l.length≤1048576∧∀a∈l,bd_S_Veneer a)):laws_toVeneerS l=some l:=by
 have hl:=h.1
 unfold laws_toVeneerS mkl
 rw [if_pos (by constructor<;>omega),Option.bind_some]
 rw [copyS (f:=laws_toVeneerS_l3 l) l _ (by simp) (by omega) ?_ ?_]
 ·rfl
 ·intro i hi out ho
  unfold laws_toVeneerS_l3
  simp only
  rw [if_pos (by omega),rd_lt hi,Option.bind_some,fh_toVeneer l[i] (h.2 _ (List.getElem_mem hi)),Option.bind_some,rd_lt (by omega:i<out.length),Option.bind_some]
  simp
 ·intro out
  unfold laws_toVeneerS_l3
  simp
theorem fh_eqVeneerS (l:(List S_Veneer)) (h:(l.length≤1048576∧∀a∈l,bd_S_Veneer a)):laws_eqVeneerS l l=some true:=by
 have hl:=h.1
 unfold laws_eqVeneerS
 rw [if_neg (by simp),eqS_refl (n:=l.length) (by omega) ?_ ?_]
 ·rfl
 ·intro i hi
  unfold laws_eqVeneerS_l4
  rw [if_pos (by omega),rd_lt hi]
  simp only [Option.bind_some]
  rw [fh_eqVeneer l[i] (h.2 _ (List.getElem_mem hi))]
  rfl
 ·unfold laws_eqVeneerS_l4
  rw [if_neg (by omega)]
theorem within_eq (n a b:Int):impl_within n a b=some (decide (a≤n∧n≤b)):=by
 unfold impl_within
 rw [Bool.decide_and]
theorem in_eq (n a b:Int):spec_l00In n a b=some (decide (a≤n∧n≤b)):=by
 unfold spec_l00In
 rw [Bool.decide_and]
theorem name_step (s:ByteArray) (i:Int):impl_IsName_l4 s i=spec_l01Name_l4 s i:=by
 unfold impl_IsName_l4 spec_l01Name_l4
 by_cases c:i< (s.size:Int)
 ·rw [if_pos c,if_pos c]
  cases bt s i with
  | none=>rfl
  | some x=>
   have d1:decide (x≥97)=!decide (x<97):=by rw [←decide_not];exact decide_eq_decide.2 (by omega)
   have d2:decide (x≤122)=!decide (x>122):=by rw [←decide_not];exact decide_eq_decide.2 (by omega)
   have d3:decide (x≥48)=!decide (x<48):=by rw [←decide_not];exact decide_eq_decide.2 (by omega)
   have d4:decide (x≤57)=!decide (x>57):=by rw [←decide_not];exact decide_eq_decide.2 (by omega)
   simp only [Option.bind_some,spec_l01Small,spec_l01Digit,d1,d2,d3,d4]
   by_cases c1:x<97<;>by_cases c2:x>122<;>by_cases c3:x<48<;>by_cases c4:x>57<;>simp [c1,c2,c3,c4]
 ·rw [if_neg c,if_neg c]
theorem name_eq (s:ByteArray):∃v,spec_l01Name s=some v∧impl_IsName s=some v:=by
 unfold spec_l01Name impl_IsName
 by_cases c0:s.size=0
 ·have hs:=size_zero c0
  refine ⟨false,?_,?_⟩
  ·rw [if_pos hs];rfl
  ·rw [if_pos (by omega)];rfl
 ·have hs:¬s=⟨#[]⟩:=fun h=>c0 (by rw [h];rfl)
  rw [if_neg hs,if_neg (show ¬((s.size:Int) <1) by omega)]
  by_cases c1:(s.size:Int) >10
  ·rw [if_pos c1,if_pos c1]
   exact ⟨false,rfl,rfl⟩
  ·rw [if_neg c1,if_neg c1]
   obtain ⟨b,hb,hb1,hb2⟩:=bt_some (s:=s) (i:=0) (by omega)
   have hb':bt s 0=some b:=hb
   rw [hb']
   have hloop:∃o,loopO (spec_l01Name_l4 s) 0=some o:=by
    refine scanEnds s.size (by omega) (fun i hi=>?_) ⟨.inl (),?_⟩
    ·obtain ⟨x,hx,_⟩:=bt_some (s:=s) hi
     unfold spec_l01Name_l4
     rw [if_pos (by omega),hx]
     simp only [Option.bind_some,spec_l01Small,spec_l01Digit]
     split
     ·simp
     ·simp only [Option.bind_some]
      split
      ·exact .inr ⟨_,rfl⟩
      ·exact .inl rfl
    ·unfold spec_l01Name_l4
     rw [if_neg (by omega)]
   obtain ⟨o,ho⟩:=hloop
   have ho2:loopO (impl_IsName_l4 s) 0=some o:=by rw [loopO_congr (name_step s)];exact ho
   rw [ho,ho2]
   have e:(if b<97 then some true else some (decide (b>122)))=some (!(decide (b≥97)&&decide (b≤122))):=by
    have d1:decide (b≥97)=!decide (b<97):=by rw [←decide_not];exact decide_eq_decide.2 (by omega)
    have d2:decide (b≤122)=!decide (b>122):=by rw [←decide_not];exact decide_eq_decide.2 (by omega)
    rw [d1,d2]
    by_cases c2:b<97<;>by_cases c3:b>122<;>simp [c2,c3]
   simp only [Option.bind_some,spec_l01Small]
   rw [e]
   simp only [Option.bind_some]
   split
   ·exact ⟨false,rfl,rfl⟩
   ·cases o with
    | inl u=>exact ⟨true,rfl,rfl⟩
    | inr r=>exact ⟨r,rfl,rfl⟩
theorem vin (n a b:Int):spec_l00In n a b=impl_within n a b:=rfl
theorem vside (a b c:S_Point):spec_l02Side a b c=impl_side a b c:=by
 unfold spec_l02Side spec_l02Cross impl_side
 simp only [Option.bind_some]
theorem vmin (a b:Int):spec_l00Min a b=some (min2 a b):=by
 unfold spec_l00Min min2
 split<;>split<;>first | rfl | (congr 1;omega)
theorem vmax (a b:Int):spec_l00Max a b=some (max2 a b):=by
 unfold spec_l00Max max2
 split<;>split<;>first | rfl | (congr 1;omega)
theorem von (a b p:S_Point):spec_l02On a b p=impl_on a b p:=by
 unfold spec_l02On impl_on
 simp only [vside,vmin,vmax,vin,Option.bind_some]
theorem vcross (a b c d:S_Point):spec_l02Crosses a b c d=impl_crossing a b c d:=by
 unfold spec_l02Crosses impl_crossing
 simp only [vside]
theorem vmeet (a b c d:S_Point):spec_l03Meet a b c d=impl_touching a b c d:=by
 unfold spec_l03Meet impl_touching
 simp only [vcross,von]
theorem side_tot (a b c:S_Point):∃v,impl_side a b c=some v:=by
 unfold impl_side
 split
 ·exact ⟨_,rfl⟩
 ·split<;>exact ⟨_,rfl⟩
theorem on_tot (a b c:S_Point):∃v,impl_on a b c=some v:=by
 obtain ⟨x,hx⟩:=side_tot a b c
 unfold impl_on impl_within
 rw [hx]
 simp only [Option.bind_some]
 split
 ·split<;>exact ⟨_,rfl⟩
 ·exact ⟨_,rfl⟩
theorem cross_tot (a b c d:S_Point):∃v,impl_crossing a b c d=some v:=by
 obtain ⟨x,hx⟩:=side_tot a b c
 obtain ⟨y,hy⟩:=side_tot a b d
 obtain ⟨z,hz⟩:=side_tot c d a
 obtain ⟨w,hw⟩:=side_tot c d b
 unfold impl_crossing
 rw [hx,hy,hz,hw]
 simp only [Option.bind_some]
 split<;>exact ⟨_,rfl⟩
theorem touch_tot (a b c d:S_Point):∃v,impl_touching a b c d=some v:=by
 obtain ⟨x,hx⟩:=cross_tot a b c d
 obtain ⟨y,hy⟩:=on_tot a b c
 obtain ⟨z,hz⟩:=on_tot a b d
 obtain ⟨w,hw⟩:=on_tot c d a
 obtain ⟨u,hu⟩:=on_tot c d b
 unfold impl_touching
 rw [hx,hy,hz,hw,hu]
 simp only [Option.bind_some]
 cases x<;>cases y<;>cases z<;>cases w<;>exact ⟨_,rfl⟩
theorem md_nat {k n:Nat} (hn:0<n):md (k:Int) (n:Int)=some ((k % n:Nat):Int):=by
 unfold md
 rw [if_neg (by omega),Int.tmod_eq_emod_of_nonneg (by omega)]
 rfl
theorem rd_mod {α:Type} {p:List α} {k:Nat} (hp:0<p.length):∃x,rd p ((k % p.length:Nat):Int)=some x:=⟨_,rd_lt (Nat.mod_lt _ hp)⟩
theorem varea (p:List S_Point):spec_l03Area p=impl_doubled p:=by
 unfold spec_l03Area impl_doubled
 congr 1
 refine loopO_congr (fun s=>?_) _
 obtain ⟨a,i⟩:=s
 unfold spec_l03Area_l3 impl_doubled_l3
 simp only
 split
 ·cases h1:rd p i<;>cases h2:md (w64 (i+1)) (p.length:Int)<;>simp only [Option.bind_some,Option.bind_none]
  rename_i x y
  cases rd p y<;>rfl
 ·rfl
theorem area_tot (p:List S_Point) (hp:p.length≤1048576):∃v,impl_doubled p=some v:=by
 have:Ev (loopO (impl_doubled_l3 p) (0,0)) (fun _=>True):=by
  refine Ev.loop (fun s:Int×Int=>0≤s.2∧s.2≤(p.length:Int)) (fun s:Int×Int=>((p.length:Int) - s.2).toNat) ?_ ⟨Int.le_refl _,by simp only;omega⟩
  rintro ⟨a,i⟩ ⟨i0,i1⟩
  unfold impl_doubled_l3
  simp only at i0 i1 ⊢
  refine Ev.ite (fun hc=>?_) fun _=>Ev.ret trivial
  obtain ⟨j,rfl⟩:∃j:Nat,i=(j:Int):=⟨i.toNat,by omega⟩
  refine Ev.bind (Ev.rd i0 hc) fun x _=>?_
  rw [w64_succ (by omega),md_nat (by omega)]
  obtain ⟨y,hy⟩:=rd_mod (p:=p) (k:=j+1) (by omega)
  simp only [Option.bind_some,hy]
  exact Ev.ret ⟨⟨by simp only;omega,by simp only;omega⟩,by simp only;omega⟩
 obtain ⟨v,hv,_⟩:=this
 unfold impl_doubled
 rw [hv]
 exact ⟨_,rfl⟩
theorem pt_tot (p:S_Point):∃v,impl_ValidPoint p=some v:=by
 unfold impl_ValidPoint impl_within
 simp only [Option.bind_some]
 split<;>exact ⟨_,rfl⟩
theorem pts_ok (p:List S_Point) (hp:p.length≤1048576):loopO (impl_validPoints_l2 p) 0=some (.inl ())∨loopO (impl_validPoints_l2 p) 0=some (.inr false):=by
 rcases validL (f:=impl_validPoints_l2 p) p (fun _=>True) (by omega) (fun i hi=>by
  unfold impl_validPoints_l2
  rw [if_pos (by omega),rd_lt hi,Option.bind_some]
  obtain ⟨v,hv⟩:=pt_tot p[i]
  rw [hv,Option.bind_some]
  cases v
  ·exact .inr rfl
  ·exact .inl ⟨rfl,trivial⟩) (by unfold impl_validPoints_l2;rw [if_neg (by omega)]) with ⟨h,_⟩ | h
 ·exact .inl h
 ·exact .inr h
theorem vedge (p:List S_Point) (i:Int) (x y:S_Point):spec_l03Ok_l18 i p x y=impl_ValidPolygon_l11 p i x y:=by
 funext k
 unfold spec_l03Ok_l18 impl_ValidPolygon_l11
 simp only [vmeet]
theorem vcorner (p:List S_Point):spec_l03Ok_l10 p=impl_ValidPolygon_l5 p:=by
 funext i
 unfold spec_l03Ok_l10 impl_ValidPolygon_l5
 simp only [von,vedge]
theorem vpts (p:List S_Point):spec_l03Ok_l5 p=impl_validPoints_l2 p:=rfl
theorem edge_tot (p:List S_Point) (hp:p.length≤1048576) (i:Int) (x y:S_Point) {k:Int} (hk:0≤k):∃o,loopO (impl_ValidPolygon_l11 p i x y) k=some o:=by
 have:Ev (loopO (impl_ValidPolygon_l11 p i x y) k) (fun _=>True):=by
  refine Ev.loop (fun s=>0≤s) (fun s=>((p.length:Int) - s).toNat) ?_ hk
  intro s h0
  unfold impl_ValidPolygon_l11
  refine Ev.ite (fun hc=>?_) fun _=>Ev.ret trivial
  obtain ⟨j,rfl⟩:∃j:Nat,s=(j:Int):=⟨s.toNat,by omega⟩
  rw [w64_succ (by omega),md_nat (by omega)]
  obtain ⟨y2,hy⟩:=rd_mod (p:=p) (k:=j+1) (by omega)
  simp only [Option.bind_some,hy,rd_lt (show j<p.length by omega)]
  obtain ⟨v,hv⟩:=touch_tot x y p[j] y2
  rw [hv]
  simp only [Option.bind_some]
  refine Ev.bind (P:=fun _=>True) (Ev.ite (fun _=>Ev.ret trivial) fun _=>Ev.ret trivial) fun t _=>?_
  exact Ev.ite (fun _=>Ev.ret trivial) fun _=>Ev.ret ⟨by omega,by omega⟩
 obtain ⟨v,hv,_⟩:=this
 exact ⟨v,hv⟩
theorem corner_tot (p:List S_Point) (hp:p.length≤1048576):∃o,loopO (impl_ValidPolygon_l5 p) 0=some o:=by
 refine scanEnds p.length (by omega) (fun i hi=>?_) ⟨_,by unfold impl_ValidPolygon_l5;rw [if_neg (by omega)]⟩
 unfold impl_ValidPolygon_l5
 obtain ⟨y,hy⟩:=rd_mod (p:=p) (k:=i+1) (by omega)
 obtain ⟨z,hz⟩:=rd_mod (p:=p) (k:=i+2) (by omega)
 have e2:w64 ((i:Int)+2)=((i+2:Nat):Int):=by rw [w64_id (by omega) (by omega)];omega
 rw [if_pos (by omega),w64_succ (by omega),e2,md_nat (by omega),md_nat (by omega),rd_lt hi]
 simp only [Option.bind_some,hy,hz]
 obtain ⟨u,hu⟩:=on_tot p[i] y z
 obtain ⟨v,hv⟩:=on_tot y z p[i]
 obtain ⟨o,ho⟩:=edge_tot p hp (i:Int) p[i] y (k:=((i+2:Nat):Int)) (by omega)
 rw [hu,hv,ho]
 simp only [Option.bind_some]
 have fin:∀t:Bool,(if t=true then (some (.inr (.inr false)):Option (Int ⊕ (Unit ⊕ Bool))) else (match (generalizing:=false) o with | .inl _=>some (.inl ((i+1:Nat):Int)) | .inr r2=>some (.inr (.inr r2))))=some (.inl (((i+1:Nat):Int)))∨∃r,(if t=true then (some (.inr (.inr false)):Option (Int ⊕ (Unit ⊕ Bool))) else (match (generalizing:=false) o with | .inl _=>some (.inl ((i+1:Nat):Int)) | .inr r2=>some (.inr (.inr r2))))=some (.inr r):=by
  intro t
  cases t
  ·cases o
   ·exact .inl rfl
   ·exact .inr ⟨_,rfl⟩
  ·exact .inr ⟨_,rfl⟩
 split
 ·exact fin true
 ·cases u
  ·exact fin v
  ·exact fin true
theorem poly_ok (p:List S_Point) (hp:p.length≤1048576):∃v,spec_l03Ok p=some v∧impl_ValidPolygon p=some v:=by
 unfold spec_l03Ok impl_ValidPolygon impl_validPoints
 simp only [vpts,vcorner,varea]
 by_cases c1:(p.length:Int) <3
 ·rw [if_pos (.inl c1),if_pos c1]
  exact ⟨_,rfl,rfl⟩
 by_cases c2:(p.length:Int) >24
 ·rw [if_pos (.inr c2),if_neg c1,if_pos c2]
  exact ⟨_,rfl,rfl⟩
 rw [if_neg (fun h=>h.elim c1 c2),if_neg c1,if_neg c2]
 obtain ⟨o,ho⟩:=corner_tot p hp
 obtain ⟨a,ha⟩:=area_tot p hp
 rw [ho,ha]
 rcases pts_ok p hp with h | h<;>rw [h]
 ·cases o<;>exact ⟨_,rfl,rfl⟩
 ·exact ⟨_,rfl,rfl⟩
theorem two_loops {f g:Int→Option (Int ⊕ (Unit ⊕ Bool))} {n:Nat} (hn:n≤1048576)
 (h:∀i:Nat,i<n→∃w:Bool,f (i:Int)=(if w=true then some (.inl (((i+1:Nat):Int))) else some (.inr (.inr false)))∧g (i:Int)=(if w=true then some (.inl (((i+1:Nat):Int))) else some (.inr (.inr false))))
 (hf:f (n:Int)=some (.inr (.inl ()))) (hg:g (n:Int)=some (.inr (.inl ()))):∃o,loopO f 0=some o∧loopO g 0=some o∧(o= .inl ()∨o= .inr false):=by
 have key:∀(m i:Nat),i+m=n→∃o,loopO f (i:Int)=some o∧loopO g (i:Int)=some o∧(o= .inl ()∨o= .inr false):=by
  intro m
  induction m with
  | zero=>
   intro i hi
   obtain rfl:i=n:=by omega
   exact ⟨_,loopO_done hf,loopO_done hg,.inl rfl⟩
  | succ m ih=>
   intro i hi
   obtain ⟨w,w1,w2⟩:=h i (by omega)
   cases w with
   | true=>
    rw [if_pos rfl] at w1 w2
    rw [loopO_next w1,loopO_next w2]
    exact ih (i+1) (by omega)
   | false=>exact ⟨_,loopO_done w1,loopO_done w2,.inr rfl⟩
 exact key n 0 (by omega)
theorem vring (d:S_Drawing) (ring:List Int):spec_l05Ring d ring=impl_ringPolygon d.Points ring:=by
 unfold spec_l05Ring impl_ringPolygon
 congr 1
 refine loopO_congr (fun s=>?_) _
 obtain ⟨i,out⟩:=s
 unfold spec_l05Ring_l3 impl_ringPolygon_l3
 simp only [vin]
 split
 ·cases rd ring i with
  | none=>rfl
  | some x=>rfl
 ·rfl
theorem ring_ev (pts:List S_Point) (ring:List Int) (hp:pts.length≤1048576) (hr:ring.length≤1048576):Ev (impl_ringPolygon pts ring) (fun r=>r.1.length≤1048576):=by
 unfold impl_ringPolygon
 refine Ev.bind (P:=fun o=>match o with | .inl l=>l.length≤1048576 | .inr r=>r.1.length≤1048576) (Ev.loop (fun s:Int×List S_Point=>0≤s.1∧s.1≤(ring.length:Int)∧(s.2.length:Int)≤s.1) (fun s:Int×List S_Point=>((ring.length:Int) - s.1).toNat) ?_ ⟨Int.le_refl _,by simp only;omega,by simp⟩) fun o ho=>?_
 ·rintro ⟨i,out⟩ ⟨i0,i1,i2⟩
  unfold impl_ringPolygon_l3 impl_within
  simp only at i0 i1 i2 ⊢
  refine Ev.ite (fun hc=>?_) fun _=>Ev.ret (by simp only;omega)
  refine Ev.bind (Ev.rd i0 hc) fun x _=>?_
  simp only [Option.bind_some,Bool.and_eq_true,decide_eq_true_eq]
  refine Ev.ite (fun hx=>?_) fun _=>Ev.ret (by simp)
  have e:w64 ((pts.length:Int) - 1)=(pts.length:Int) - 1:=w64_id (by omega) (by omega)
  rw [e] at hx
  refine Ev.bind (Ev.rd hx.1 (by omega)) fun y _=>?_
  refine Ev.bind (Ev.apd (by simp;omega)) fun l hl=>?_
  subst hl
  rw [w64_id (n:=i+1) (by omega) (by omega)]
  exact Ev.ret ⟨⟨by simp only;omega,by simp only;omega,by simp only [List.length_append,List.length_singleton];omega⟩,by simp only;omega⟩
 ·cases o with
  | inl l=>exact Ev.ret ho
  | inr r=>exact Ev.ret ho
theorem vdup (d:S_Drawing) {i:Nat} (hi:i<d.Points.length) (hp:d.Points.length≤1048576):
 ∃b:Bool,loopO (spec_l05Points_l9 d (i:Int)) 0=some (if b=true then .inr false else .inl ())∧slices_Contains_impl_Point_impl_Point (d.Points.take i) d.Points[i]=some b:=by
 have hl:(d.Points.take i).length=i:=by rw [List.length_take];omega
 have e1:=scanFind (f:=spec_l05Points_l9 d (i:Int)) (d.Points.take i) (fun x=>decide (d.Points[i].X=x.X∧d.Points[i].Y=x.Y)) (fun _=>false) (by omega) (fun k hk=>by
  unfold spec_l05Points_l9
  rw [if_pos (by omega),rd_lt hi,Option.bind_some,rd_lt (show k<d.Points.length by omega),Option.bind_some,List.getElem_take]
  by_cases c:d.Points[i].X=(d.Points[k]'(by omega)).X∧d.Points[i].Y=(d.Points[k]'(by omega)).Y
  ·rw [if_pos c,if_pos (decide_eq_true c)]
  ·rw [if_neg c,if_neg (by simpa using c)]) (by unfold spec_l05Points_l9;rw [if_neg (by omega)])
 have e2:=scanFind (f:=slices_Index_impl_Point_impl_Point_l2 (d.Points.take i) d.Points[i]) (d.Points.take i) (fun x=>decide (d.Points[i].X=x.X∧d.Points[i].Y=x.Y)) (fun k=>(k:Int)) (by omega) (fun k hk=>by
  unfold slices_Index_impl_Point_impl_Point_l2
  rw [if_pos (by omega),rd_lt hk,Option.bind_some]
  by_cases c:d.Points[i].X=(d.Points.take i)[k].X∧d.Points[i].Y=(d.Points.take i)[k].Y
  ·rw [if_pos c,if_pos (decide_eq_true c)]
  ·rw [if_neg c,if_neg (by simpa using c)]) (by unfold slices_Index_impl_Point_impl_Point_l2;rw [if_neg (by omega)])
 unfold slices_Contains_impl_Point_impl_Point slices_Index_impl_Point_impl_Point
 rcases e1 with ⟨a1,a2⟩ | ⟨k,hk,a1,_,a2⟩<;>rcases e2 with ⟨b1,b2⟩ | ⟨m,hm,b1,_,b2⟩
 ·exact ⟨false,by rw [a2];rfl,by rw [b2];rfl⟩
 ·have:=a1 _ (List.getElem_mem hm)
  rw [b1] at this
  cases this
 ·have:=b1 _ (List.getElem_mem hk)
  rw [a1] at this
  cases this
 ·refine ⟨true,by rw [a2];rfl,?_⟩
  rw [b2]
  show some (decide ((m:Int)≥0))=_
  rw [decide_eq_true (by omega)]
theorem pts_step (d:S_Drawing) (hp:d.Points.length≤1048576) {i:Nat} (hi:i<d.Points.length):
 ∃w:Bool,spec_l05Points_l4 d (i:Int)=(if w=true then some (.inl (((i+1:Nat):Int))) else some (.inr (.inr false)))∧impl_ValidDrawing_l4 d (i:Int)=(if w=true then some (.inl (((i+1:Nat):Int))) else some (.inr (.inr false))):=by
 obtain ⟨b,b1,b2⟩:=vdup d hi hp
 have hs:slc d.Points 0 (i:Int)=some (d.Points.take i):=by
  unfold slc
  rw [if_pos ⟨by omega,by omega,by omega⟩]
  simp
 unfold spec_l05Points_l4 impl_ValidDrawing_l4 impl_within spec_l00In
 rw [if_pos (by omega),if_pos (by omega),rd_lt hi,b1,hs,w64_succ (by omega)]
 simp only [Option.bind_some,b2]
 cases (decide (d.Points[i].X≥0)&&decide (d.Points[i].X≤d.Width)) with
 | false=>exact ⟨false,rfl,rfl⟩
 | true=>
  cases (decide (d.Points[i].Y≥0)&&decide (d.Points[i].Y≤d.Height)) with
  | false=>exact ⟨false,rfl,rfl⟩
  | true=>
   cases b with
   | true=>exact ⟨false,rfl,rfl⟩
   | false=>exact ⟨true,rfl,rfl⟩
theorem face_step (d:S_Drawing) (hb:bd_S_Drawing d) {i:Nat} (hi:i<d.Faces.length):
 ∃w:Bool,spec_l05Ok_l4 d (i:Int)=(if w=true then some (.inl (((i+1:Nat):Int))) else some (.inr (.inr false)))∧impl_ValidDrawing_l10 d (i:Int)=(if w=true then some (.inl (((i+1:Nat):Int))) else some (.inr (.inr false))):=by
 obtain ⟨_,_,⟨hp,_⟩,⟨hf,hF⟩⟩:=hb
 obtain ⟨n,n1,n2⟩:=name_eq (d.Faces[i]).Name
 obtain ⟨r,r1,r2⟩:=ring_ev d.Points (d.Faces[i]).Ring hp (hF _ (List.getElem_mem hi)).2.1
 obtain ⟨q,q1,q2⟩:=poly_ok r.1 r2
 have hc:(i:Int) < (d.Faces.length:Int):=by omega
 unfold spec_l05Ok_l4 impl_ValidDrawing_l10
 rw [if_pos hc,if_pos hc,rd_lt hi,w64_succ (by omega)]
 simp only [Option.bind_some,vring,r1,q1,q2,n1,n2]
 have tail:∀t:Bool,∃w:Bool,(if t=true then (some (.inr (.inr false)):Option (Int ⊕ (Unit ⊕ Bool))) else (if r.2=true then some (!q) else some true).bind fun t_95_m9=>if t_95_m9=true then some (.inr (.inr false)) else some (.inl ((i+1:Nat):Int)))=(if w=true then some (.inl (((i+1:Nat):Int))) else some (.inr (.inr false))):=by
  intro t
  cases t
  ·cases r.2
   ·exact ⟨false,rfl⟩
   ·cases q
    ·exact ⟨false,rfl⟩
    ·exact ⟨true,rfl⟩
  ·exact ⟨false,rfl⟩
 cases n with
 | false=>exact ⟨false,rfl,rfl⟩
 | true=>
  by_cases c:(i:Int) >0
  ·simp only [if_pos c,if_true]
   rw [w64_pred (by omega) (by omega),rd_lt (show i - 1<d.Faces.length by omega)]
   simp only [Option.bind_some]
   obtain ⟨w,hw⟩:=tail (!Op.bytesLess (d.Faces[i - 1]'(by omega)).Name.toList (d.Faces[i]).Name.toList)
   exact ⟨w,hw,hw⟩
  ·simp only [if_neg c,if_true,Option.bind_some]
   obtain ⟨w,hw⟩:=tail false
   exact ⟨w,hw,hw⟩
theorem draw_ok (d:S_Drawing) (hb:bd_S_Drawing d):∃v,spec_l05Ok d=some v∧impl_ValidDrawing d=some v:=by
 obtain ⟨_,_,⟨hp,_⟩,⟨hf,_⟩⟩:=id hb
 obtain ⟨o1,p1,p2,p3⟩:=two_loops (f:=spec_l05Points_l4 d) (g:=impl_ValidDrawing_l4 d) hp (fun i hi=>pts_step d hp hi) (by unfold spec_l05Points_l4;rw [if_neg (by omega)]) (by unfold impl_ValidDrawing_l4;rw [if_neg (by omega)])
 obtain ⟨o2,f1,f2,f3⟩:=two_loops (f:=spec_l05Ok_l4 d) (g:=impl_ValidDrawing_l10 d) hf (fun i hi=>face_step d hb hi) (by unfold spec_l05Ok_l4;rw [if_neg (by omega)]) (by unfold impl_ValidDrawing_l10;rw [if_neg (by omega)])
 unfold spec_l05Ok impl_ValidDrawing spec_l05Points
 rw [p1,p2,f1,f2]
 simp only [vin,impl_within,Option.bind_some]
 cases (decide (d.Width≥10)&&decide (d.Width≤20000)) with
 | false=>exact ⟨false,rfl,rfl⟩
 | true=>
  cases (decide (d.Height≥10)&&decide (d.Height≤20000)) with
  | false=>exact ⟨false,rfl,rfl⟩
  | true=>
   by_cases c1:(d.Points.length:Int) >48
   ·simp only [if_pos c1]
    exact ⟨false,rfl,rfl⟩
   ·simp only [if_neg c1]
    cases decide ((d.Faces.length:Int) >24) with
    | true=>rcases p3 with rfl | rfl<;>exact ⟨false,rfl,rfl⟩
    | false=>rcases p3 with rfl | rfl<;>rcases f3 with rfl | rfl<;>exact ⟨_,rfl,rfl⟩
theorem all_loop {α:Type} {f:Int→Option (Int ⊕ (Unit ⊕ Bool))} (l:List α) (V:α→Bool) (hl:l.length≤1048576)
 (h1:∀(i:Nat) (hi:i<l.length),f (i:Int)=if V l[i]=true then some (.inl (w64 ((i:Int)+1))) else some (.inr (.inr false))) (h2:f (l.length:Int)=some (.inr (.inl ()))):
 loopO f 0=some (if l.all V=true then .inl () else .inr false):=by
 rcases scanFind (ρ:=Bool) l (fun x=>!V x) (fun _=>false) (by omega) (fun i hi=>by rw [h1 i hi];cases V l[i]<;>rfl) h2 with ⟨a,b⟩ | ⟨i,hi,a,_,b⟩
 ·rw [b,if_pos (List.all_eq_true.2 fun x hx=>by simpa using a x hx)]
 ·have:¬l.all V=true:=fun h=>by
   have e:=List.all_eq_true.1 h _ (List.getElem_mem hi)
   rw [e] at a
   cases a
  rw [b,if_neg this]
theorem any_index {α:Type} {f:Int→Option (Int ⊕ (Unit ⊕ Int))} (l:List α) (V:α→Bool) (hl:l.length≤1048576)
 (h1:∀(i:Nat) (hi:i<l.length),f (i:Int)=if (!V l[i])=true then some (.inr (.inr (i:Int))) else some (.inl (w64 ((i:Int)+1)))) (h2:f (l.length:Int)=some (.inr (.inl ()))):
 (l.all V=true∧loopO f 0=some (.inl ()))∨(l.all V=false∧∃k:Nat,loopO f 0=some (.inr (k:Int))):=by
 rcases scanFind l (fun x=>!V x) (fun k=>(k:Int)) (by omega) h1 h2 with ⟨a,b⟩ | ⟨i,hi,a,_,b⟩
 ·exact .inl ⟨List.all_eq_true.2 fun x hx=>by simpa using a x hx,b⟩
 ·refine .inr ⟨?_,i,b⟩
  rw [List.all_eq_false]
  exact ⟨_,List.getElem_mem hi,by simpa using a⟩
def nms:List ByteArray:=[⟨#[97,115,104]⟩,⟨#[98,101,101,99,104]⟩,⟨#[98,105,114,99,104]⟩,⟨#[99,104,101,114,114,121]⟩,⟨#[101,98,111,110,121]⟩,⟨#[104,111,108,108,121]⟩,⟨#[109,97,112,108,101]⟩,⟨#[111,97,107]⟩,⟨#[114,111,115,101,119,111,111,100]⟩,⟨#[119,97,108,110,117,116]⟩]
theorem bne_of {a b:Array UInt8} (h:a.toList≠b.toList):¬(⟨a⟩:ByteArray)=⟨b⟩:=fun e=>h (by injection e with e;rw [e])
theorem species (s:ByteArray):(spec_l07Find s=some (-1)∧impl_speciesShade s=some (0,false))∨
 ∃(k:Nat) (b:Int) (tb:List (List Int)) (row:List Int),spec_l07Find s=some (k:Int)∧spec_l07Table=some tb∧rd tb (k:Int)=some row∧rd row 0=some b∧0≤b∧b≤100∧impl_speciesShade s=some (b,true):=by
 have hN:spec_l07Names=some nms:=rfl
 unfold spec_l07Find
 rw [hN,Option.bind_some]
 rcases scanFind (f:=spec_l07Find_l3 s nms) nms (fun x=>decide (x=s)) (fun k=>(k:Int)) (by decide) (fun i hi=>by
  unfold spec_l07Find_l3
  rw [if_pos (by omega),rd_lt hi,Option.bind_some]
  by_cases c:nms[i]=s
  ·rw [if_pos c,if_pos (decide_eq_true c)]
  ·rw [if_neg c,if_neg (by simpa using c)]) (by unfold spec_l07Find_l3;rw [if_neg (by omega)]) with ⟨a,b⟩ | ⟨k,hk,a,_,b⟩
 ·left
  rw [b]
  refine ⟨rfl,?_⟩
  have hn:∀x∈nms,¬s=x:=fun x hx e=>by
   have:=a x hx
   rw [e] at this
   simp at this
  simp only [nms,List.mem_cons,forall_eq_or_imp,List.not_mem_nil,false_implies,implies_true,and_true] at hn
  obtain ⟨h1,h2,h3,h4,h5,h6,h7,h8,h9,h10⟩:=hn
  unfold impl_speciesShade impl_SpeciesData
  rw [if_neg h1,if_neg h2,if_neg h3,if_neg h4,if_neg h5,if_neg h6,if_neg h7,if_neg h8,if_neg h9,if_neg h10]
  rfl
 ·right
  rw [b]
  have hs:nms[k]=s:=by simpa using a
  have hk':k<10:=hk
  unfold impl_speciesShade impl_SpeciesData
  have hc:k=0∨k=1∨k=2∨k=3∨k=4∨k=5∨k=6∨k=7∨k=8∨k=9:=by omega
  rcases hc with rfl | rfl | rfl | rfl | rfl | rfl | rfl | rfl | rfl | rfl
  ·rw [←hs];exact ⟨0,20,_,_,rfl,rfl,rfl,rfl,by decide,by decide,by rw [show nms[0]=(⟨#[97,115,104]⟩:ByteArray) from rfl,if_pos rfl];rfl⟩
  ·rw [←hs];exact ⟨1,35,_,_,rfl,rfl,rfl,rfl,by decide,by decide,by rw [show nms[1]=(⟨#[98,101,101,99,104]⟩:ByteArray) from rfl,if_neg (bne_of (by decide)),if_pos rfl];rfl⟩
  ·rw [←hs];exact ⟨2,15,_,_,rfl,rfl,rfl,rfl,by decide,by decide,by rw [show nms[2]=(⟨#[98,105,114,99,104]⟩:ByteArray) from rfl,if_neg (bne_of (by decide)),if_neg (bne_of (by decide)),if_pos rfl];rfl⟩
  ·rw [←hs];exact ⟨3,50,_,_,rfl,rfl,rfl,rfl,by decide,by decide,by rw [show nms[3]=(⟨#[99,104,101,114,114,121]⟩:ByteArray) from rfl,if_neg (bne_of (by decide)),if_neg (bne_of (by decide)),if_neg (bne_of (by decide)),if_pos rfl];rfl⟩
  ·rw [←hs];exact ⟨4,95,_,_,rfl,rfl,rfl,rfl,by decide,by decide,by rw [show nms[4]=(⟨#[101,98,111,110,121]⟩:ByteArray) from rfl,if_neg (bne_of (by decide)),if_neg (bne_of (by decide)),if_neg (bne_of (by decide)),if_neg (bne_of (by decide)),if_pos rfl];rfl⟩
  ·rw [←hs];exact ⟨5,5,_,_,rfl,rfl,rfl,rfl,by decide,by decide,by rw [show nms[5]=(⟨#[104,111,108,108,121]⟩:ByteArray) from rfl,if_neg (bne_of (by decide)),if_neg (bne_of (by decide)),if_neg (bne_of (by decide)),if_neg (bne_of (by decide)),if_neg (bne_of (by decide)),if_pos rfl];rfl⟩
  ·rw [←hs];exact ⟨6,10,_,_,rfl,rfl,rfl,rfl,by decide,by decide,by rw [show nms[6]=(⟨#[109,97,112,108,101]⟩:ByteArray) from rfl,if_neg (bne_of (by decide)),if_neg (bne_of (by decide)),if_neg (bne_of (by decide)),if_neg (bne_of (by decide)),if_neg (bne_of (by decide)),if_neg (bne_of (by decide)),if_pos rfl];rfl⟩
  ·rw [←hs];exact ⟨7,40,_,_,rfl,rfl,rfl,rfl,by decide,by decide,by rw [show nms[7]=(⟨#[111,97,107]⟩:ByteArray) from rfl,if_neg (bne_of (by decide)),if_neg (bne_of (by decide)),if_neg (bne_of (by decide)),if_neg (bne_of (by decide)),if_neg (bne_of (by decide)),if_neg (bne_of (by decide)),if_neg (bne_of (by decide)),if_pos rfl];rfl⟩
  ·rw [←hs];exact ⟨8,80,_,_,rfl,rfl,rfl,rfl,by decide,by decide,by rw [show nms[8]=(⟨#[114,111,115,101,119,111,111,100]⟩:ByteArray) from rfl,if_neg (bne_of (by decide)),if_neg (bne_of (by decide)),if_neg (bne_of (by decide)),if_neg (bne_of (by decide)),if_neg (bne_of (by decide)),if_neg (bne_of (by decide)),if_neg (bne_of (by decide)),if_neg (bne_of (by decide)),if_pos rfl];rfl⟩
  ·rw [←hs];exact ⟨9,70,_,_,rfl,rfl,rfl,rfl,by decide,by decide,by rw [show nms[9]=(⟨#[119,97,108,110,117,116]⟩:ByteArray) from rfl,if_neg (bne_of (by decide)),if_neg (bne_of (by decide)),if_neg (bne_of (by decide)),if_neg (bne_of (by decide)),if_neg (bne_of (by decide)),if_neg (bne_of (by decide)),if_neg (bne_of (by decide)),if_neg (bne_of (by decide)),if_neg (bne_of (by decide)),if_pos rfl];rfl⟩
theorem ven_eq (x:S_Veneer):∃v,spec_l07Ok x=some v∧impl_ValidVeneer x=some v:=by
 unfold spec_l07Ok impl_ValidVeneer
 rcases species x.Species with ⟨h1,h2⟩ | ⟨k,b,tb,row,h1,h2,h3,h4,h5,h6,h7⟩
 ·rw [h1,h2];exact ⟨false,rfl,rfl⟩
 ·rw [h1,h7,h2]
  simp only [Option.bind_some,h3,h4,in_eq,within_eq,if_true,spec_l07Grain]
  rw [if_neg (show ¬(k:Int) <0 by omega),w64_id (n:=b - 15) (by omega) (by omega),w64_id (n:=b+15) (by omega) (by omega)]
  by_cases c:0≤x.Shade∧x.Shade≤100
  ·rw [w64_id (n:=x.Shade - b) (by omega) (by omega),decide_eq_true c]
   have e:decide (b - 15≤x.Shade∧x.Shade≤b+15)=decide (-15≤x.Shade - b∧x.Shade - b≤15):=decide_eq_decide.2 ⟨fun h=>by omega,fun h=>by omega⟩
   rw [e]
   cases decide (-15≤x.Shade - b∧x.Shade - b≤15)<;>exact ⟨_,rfl,rfl⟩
  ·rw [decide_eq_false c]
   exact ⟨false,rfl,rfl⟩
noncomputable def venV (x:S_Veneer):Bool:=(spec_l07Ok x).getD false
theorem ven_s (x:S_Veneer):spec_l07Ok x=some (venV x):=by
 obtain ⟨v,h,_⟩:=ven_eq x
 unfold venV
 rw [h];rfl
theorem ven_i (x:S_Veneer):impl_ValidVeneer x=some (venV x):=by
 obtain ⟨v,h,h2⟩:=ven_eq x
 unfold venV
 rw [h,h2];rfl
theorem vens_i (l:List S_Veneer) (hl:l.length≤1048576):impl_validVeneers l=some (l.all venV):=by
 unfold impl_validVeneers slices_ContainsFunc_impl_Veneer_impl_Veneer slices_IndexFunc_impl_Veneer_impl_Veneer
 rcases any_index (f:=slices_IndexFunc_impl_Veneer_impl_Veneer_l2 (fun a0=>impl_validVeneers_c1 a0) l) l venV hl (fun i hi=>by
  unfold slices_IndexFunc_impl_Veneer_impl_Veneer_l2 impl_validVeneers_c1
  rw [if_pos (by omega),rd_lt hi,Option.bind_some]
  simp only [ven_i,Option.bind_some]) (by unfold slices_IndexFunc_impl_Veneer_impl_Veneer_l2;rw [if_neg (by omega)]) with ⟨a,b⟩ | ⟨a,k,b⟩
 ·rw [b,a];rfl
 ·rw [b,a]
  show some (!decide ((k:Int)≥0))=_
  rw [decide_eq_true (by omega)]
  rfl
def er {α:Type} (R:List α):List (α×α):=R.zip (R.drop 1++R.take 1)
theorem er_len {α:Type} (R:List α):(er R).length=R.length:=by
 unfold er
 rw [List.length_zip,List.length_append,List.length_drop,List.length_take]
 omega
theorem er_get {α:Type} {R:List α} {j:Nat} (h:j<R.length):∃h2:(j+1) % R.length<R.length,(er R)[j]'(by rw [er_len];exact h)=(R[j],R[(j+1) % R.length]):=by
 have h2:(j+1) % R.length<R.length:=Nat.mod_lt _ (by omega)
 refine ⟨h2,?_⟩
 unfold er
 rw [List.getElem_zip]
 congr 1
 by_cases c:j+1<R.length
 ·rw [List.getElem_append_left (by rw [List.length_drop];omega),List.getElem_drop]
  congr 1
  rw [Nat.mod_eq_of_lt c];omega
 ·have e:j+1=R.length:=by omega
  rw [List.getElem_append_right (by rw [List.length_drop];omega),List.getElem_take]
  congr 1
  rw [List.length_drop,e,Nat.mod_self];omega
theorem er_rd {α:Type} {R:List α} (hR:R.length≤1048576) {j:Nat} (h:j<R.length):rd R (j:Int)=some ((er R)[j]'(by rw [er_len];exact h)).1∧md (w64 ((j:Int)+1)) (R.length:Int)=some (((j+1) % R.length:Nat):Int)∧rd R (((j+1) % R.length:Nat):Int)=some ((er R)[j]'(by rw [er_len];exact h)).2:=by
 obtain ⟨h2,h3⟩:=er_get h
 rw [h3]
 exact ⟨rd_lt h,by rw [w64_succ (by omega)];exact md_nat (by omega),rd_lt h2⟩
theorem any_take {α:Type} {l:List α} {p:α→Bool} {i:Nat} (h:i<l.length):(l.take (i+1)).any p=((l.take i).any p||p l[i]):=by
 rw [List.take_succ_eq_append_getElem h,List.any_append,List.any_cons,List.any_nil,Bool.or_false]
def he (p q:Int×Int):Bool:=decide (q.1=p.1∧q.2=p.2∨q.1=p.2∧q.2=p.1)
theorem hasEdge_eq (S:List Int) (hS:S.length≤1048576) (p:Int×Int):spec_l05HasEdge S p.1 p.2=some ((er S).any (he p)):=by
 obtain ⟨a,b⟩:=p
 unfold spec_l05HasEdge
 rcases scanFind (f:=spec_l05HasEdge_l2 a b S) (er S) (he (a,b)) (fun _=>true) (by rw [er_len];omega) (fun i hi=>by
  rw [er_len] at hi
  obtain ⟨e1,e2,e3⟩:=er_rd hS hi
  unfold spec_l05HasEdge_l2
  rw [if_pos (by omega),e1,Option.bind_some,e2,Option.bind_some,e3,Option.bind_some]
  generalize (er S)[i]'(by rw [er_len];exact hi)=q
  obtain ⟨c,d⟩:=q
  unfold he
  by_cases c1:c=a<;>by_cases c2:d=b<;>by_cases c3:c=b<;>by_cases c4:d=a<;>simp_all) (by unfold spec_l05HasEdge_l2;rw [er_len,if_neg (by omega)]) with ⟨h1,h2⟩ | ⟨i,hi,h1,_,h2⟩
 ·rw [h2,List.any_eq_false.2 fun x hx=>by simpa using h1 x hx]
  rfl
 ·rw [h2,List.any_eq_true.2 ⟨_,List.getElem_mem hi,h1⟩]
  rfl
def fc (R S:List Int):Bool:=(er R).any fun p=>(er S).any (he p)
def rg (d:S_Drawing) (k:Nat):List Int:=match d.Faces[k]? with | some f=>f.Ring | none=>[]
def nearP (d:S_Drawing) (k n:Nat):List Int:=((List.range n).filter fun m=>decide (m≠k)&&fc (rg d k) (rg d m)).map fun m:Nat=>(m:Int)
theorem rg_lt {d:S_Drawing} {k:Nat} (h:k<d.Faces.length):rg d k=d.Faces[k].Ring:=by
 unfold rg
 rw [List.getElem?_eq_getElem h]
theorem nearP_succ (d:S_Drawing) (k n:Nat):nearP d k (n+1)=if n≠k∧fc (rg d k) (rg d n)=true then nearP d k n++[(n:Int)] else nearP d k n:=by
 unfold nearP
 rw [List.range_succ,List.filter_append,List.map_append]
 by_cases c:n≠k∧fc (rg d k) (rg d n)=true
 ·rw [if_pos c,List.filter_cons_of_pos (by simp [c.1,c.2])];rfl
 ·rw [if_neg c,List.filter_cons_of_neg (by simpa using c),List.filter_nil,List.map_nil,List.append_nil]
theorem nearP_len (d:S_Drawing) (k n:Nat):(nearP d k n).length≤n:=by
 unfold nearP
 rw [List.length_map]
 exact Nat.le_trans (List.length_filter_le _ (List.range n)) (Nat.le_of_eq List.length_range)
theorem nearP_mem {d:S_Drawing} {k n:Nat} {x:Int} (h:x∈nearP d k n):0≤x∧x<n:=by
 unfold nearP at h
 obtain ⟨m,hm,rfl⟩:=List.mem_map.1 h
 have:=List.mem_range.1 (List.mem_filter.1 hm).1
 omega
def bR (d:S_Drawing):Prop:=d.Faces.length≤1048576∧∀f∈d.Faces,f.Ring.length≤1048576
theorem bR_rg {d:S_Drawing} (h:bR d) (k:Nat):(rg d k).length≤1048576:=by
 unfold rg
 cases e:d.Faces[k]? with
 | none=>simp
 | some f=>exact h.2 f (List.mem_of_getElem? e)
theorem near_spec {d:S_Drawing} (hb:bR d) {k:Nat} (hk:k<d.Faces.length):spec_l05Near d (k:Int)=some (nearP d k d.Faces.length):=by
 unfold spec_l05Near
 have hF:=hb.1
 rw [rd_lt hk,Option.bind_some]
 have hR:(d.Faces[k]).Ring.length≤1048576:=hb.2 _ (List.getElem_mem hk)
 have inner:∀f:Nat,(hf:f<d.Faces.length)→loopO (spec_l05Near_l8 d (f:Int) d.Faces[k]) (false,0)=some (fc (rg d k) (rg d f)):=by
  intro f hf
  have hS:(d.Faces[f]).Ring.length≤1048576:=hb.2 _ (List.getElem_mem hf)
  rw [rg_lt hk,rg_lt hf]
  refine loopO_for (fun j:Nat=>(((er (d.Faces[k]).Ring).take j).any fun p=>(er (d.Faces[f]).Ring).any (he p),(j:Int))) (d.Faces[k]).Ring.length (fun j hj=>?_) ?_
  ·obtain ⟨e1,e2,e3⟩:=er_rd hR hj
   unfold spec_l05Near_l8
   simp only
   rw [if_pos (by omega),any_take (by rw [er_len];exact hj),e1,e2,rd_lt hf,w64_succ (by omega)]
   simp only [Option.bind_some]
   rw [e3]
   simp only [Option.bind_some,hasEdge_eq _ hS]
   cases ((er (d.Faces[k]).Ring).take j).any fun p=>(er (d.Faces[f]).Ring).any (he p)<;>rfl
  ·unfold spec_l05Near_l8
   simp only
   rw [if_neg (by omega),List.take_of_length_le (by rw [er_len];exact Nat.le_refl _)]
   rfl
 have e:loopO (spec_l05Near_l4 d (k:Int) d.Faces[k]) (0,[])=some (nearP d k d.Faces.length):=by
  refine loopO_for (fun f:Nat=>((f:Int),nearP d k f)) d.Faces.length (fun f hf=>?_) ?_
  ·have hl:=nearP_len d k f
   unfold spec_l05Near_l4
   simp only
   rw [if_pos (by omega),inner f hf,Option.bind_some,nearP_succ]
   unfold spec_l05Near_k5
   rw [w64_succ (by omega)]
   by_cases c:f≠k∧fc (rg d k) (rg d f)=true
   ·rw [if_pos c,if_pos ⟨by omega,c.2⟩,apdn (by simp only [List.length_singleton];omega)];rfl
   ·rw [if_neg c,if_neg (fun h=>c ⟨by omega,h.2⟩)]
  ·unfold spec_l05Near_l4
   simp only
   rw [if_neg (by omega)]
 rw [e];rfl
def mm (p:Int×Int):Ar2_Int:=⟨min2 p.1 p.2,max2 p.1 p.2⟩
theorem mm_eq (p q:Int×Int):((mm p).e0=(mm q).e0∧(mm p).e1=(mm q).e1)↔he p q=true:=by
 obtain ⟨a,b⟩:=p
 obtain ⟨c,d⟩:=q
 unfold mm he
 simp only [decide_eq_true_eq]
 rcases min2_cases a b with h1 | h1<;>rcases min2_cases c d with h2 | h2<;>rcases max2_cases a b with h3 | h3<;>rcases max2_cases c d with h4 | h4<;>rw [h1.2,h2.2,h3.2,h4.2]<;>omega
theorem ringEdges_eq (R:List Int) (hR:R.length≤1048576):impl_ringEdges R=some ((er R).map mm):=by
 unfold impl_ringEdges
 have e:loopO (impl_ringEdges_l3 R) (0,[])=some ((er R).map mm):=by
  refine loopO_for (fun j:Nat=>((j:Int),((er R).take j).map mm)) R.length (fun j hj=>?_) ?_
  ·obtain ⟨e1,e2,e3⟩:=er_rd hR hj
   unfold impl_ringEdges_l3
   simp only
   rw [if_pos (by omega),e1,Option.bind_some,e2,Option.bind_some,e3,Option.bind_some,apdn (by rw [List.length_map,List.length_take,List.length_singleton];omega),Option.bind_some,w64_succ (by omega),List.take_succ_eq_append_getElem (by rw [er_len];exact hj),List.map_append]
   rfl
  ·unfold impl_ringEdges_l3
   simp only
   rw [if_neg (by omega),List.take_of_length_le (by rw [er_len];exact Nat.le_refl _)]
 rw [e];rfl
theorem has2 (L:List (Int×Int)) (hL:L.length≤1048576) (p:Int×Int):slices_Contains_2_int64_2_int64 (L.map mm) (mm p)=some (L.any (he p)):=by
 unfold slices_Contains_2_int64_2_int64 slices_Index_2_int64_2_int64
 rcases scanFind (f:=slices_Index_2_int64_2_int64_l2 (L.map mm) (mm p)) L (he p) (fun k=>(k:Int)) (by omega) (fun i hi=>by
  unfold slices_Index_2_int64_2_int64_l2
  rw [List.length_map,if_pos (by omega),rd_lt (by rw [List.length_map];exact hi),Option.bind_some,List.getElem_map]
  by_cases c:he p L[i]=true
  ·rw [if_pos ((mm_eq _ _).2 c),if_pos c]
  ·rw [if_neg (fun h=>c ((mm_eq _ _).1 h)),if_neg c]) (by unfold slices_Index_2_int64_2_int64_l2;rw [List.length_map,if_neg (by omega)]) with ⟨h1,h2⟩ | ⟨i,hi,h1,_,h2⟩
 ·rw [h2,List.any_eq_false.2 fun x hx=>by simpa using h1 x hx]
  rfl
 ·rw [h2,List.any_eq_true.2 ⟨_,List.getElem_mem hi,h1⟩]
  show some (decide ((i:Int)≥0))=_
  rw [decide_eq_true (by omega)]
theorem hasF2 {f:Ar2_Int→Option Bool} {V:Int×Int→Bool} (L:List (Int×Int)) (hL:L.length≤1048576) (hf:∀p,f (mm p)=some (V p)):slices_ContainsFunc_2_int64_2_int64 (L.map mm) f=some (L.any V):=by
 unfold slices_ContainsFunc_2_int64_2_int64 slices_IndexFunc_2_int64_2_int64
 rcases scanFind (f:=slices_IndexFunc_2_int64_2_int64_l2 f (L.map mm)) L V (fun k=>(k:Int)) (by omega) (fun i hi=>by
  unfold slices_IndexFunc_2_int64_2_int64_l2
  rw [List.length_map,if_pos (by omega),rd_lt (by rw [List.length_map];exact hi),Option.bind_some,List.getElem_map,hf]
  rfl) (by unfold slices_IndexFunc_2_int64_2_int64_l2;rw [List.length_map,if_neg (by omega)]) with ⟨h1,h2⟩ | ⟨i,hi,h1,_,h2⟩
 ·rw [h2,List.any_eq_false.2 fun x hx=>by simpa using h1 x hx]
  rfl
 ·rw [h2,List.any_eq_true.2 ⟨_,List.getElem_mem hi,h1⟩]
  show some (decide ((i:Int)≥0))=_
  rw [decide_eq_true (by omega)]
def edgesP (d:S_Drawing) (n:Nat):List (List Ar2_Int):=(List.range n).map fun k=>(er (rg d k)).map mm
def rowsP {β:Type} (g:Nat→β) (z:β) (t n:Nat):List β:=(List.range t).map g++List.replicate (n - t) z
theorem rowsP_len {β:Type} {g:Nat→β} {z:β} {t n:Nat} (h:t≤n):(rowsP g z t n).length=n:=by
 unfold rowsP
 rw [List.length_append,List.length_map,List.length_range,List.length_replicate];omega
theorem rowsP_get {β:Type} {g:Nat→β} {z:β} {t n:Nat} (h:t<n):rd (rowsP g z t n) (t:Int)=some z:=by
 have hl:=rowsP_len (g:=g) (z:=z) (Nat.le_of_lt h)
 rw [rd_lt (by omega)]
 unfold rowsP
 rw [List.getElem_append_right (by simp),List.getElem_replicate]
theorem rowsP_set {β:Type} {g:Nat→β} {z:β} {t n:Nat} (h:t<n):(rowsP g z t n).set t (g t)=rowsP g z (t+1) n:=by
 unfold rowsP
 rw [List.set_append_right _ _ (by simp),List.length_map,List.length_range,Nat.sub_self,List.range_succ,List.map_append,List.append_assoc]
 congr 1
 rw [show n - t=(n - (t+1))+1 by omega,List.replicate_succ,List.set_cons_zero]
 rfl
theorem rowsP_all {β:Type} {g:Nat→β} {z:β} {n:Nat}:rowsP g z n n=(List.range n).map g:=by
 unfold rowsP
 rw [Nat.sub_self,List.replicate_zero,List.append_nil]
theorem rowsP_same {β:Type} {g:Nat→β} {z:β} {t n:Nat} (h:t<n):(rowsP g z t n).set t z=rowsP g z t n:=by
 have h1:=rowsP_get (g:=g) (z:=z) h
 rw [rd_nat] at h1
 obtain ⟨h2,h3⟩:=List.getElem?_eq_some_iff.1 h1
 apply List.ext_getElem?
 intro j
 by_cases c:j=t
 ·subst c;rw [List.getElem?_set_self h2,h1]
 ·rw [List.getElem?_set_ne (by omega)]
theorem rd_set {α:Type} {l:List α} {t:Nat} {x:α} (h:t<l.length):rd (l.set t x) (t:Int)=some x:=by
 rw [rd_nat,List.getElem?_set_self h]
theorem near_impl {d:S_Drawing} (hb:bR d):impl_neighbours d=some ((List.range d.Faces.length).map fun k=>nearP d k d.Faces.length):=by
 have hF:=hb.1
 unfold impl_neighbours
 have e:loopO (impl_neighbours_l3 d) (0,[])=some (edgesP d d.Faces.length):=by
  refine loopO_for (fun t:Nat=>((t:Int),edgesP d t)) d.Faces.length (fun t ht=>?_) ?_
  ·unfold impl_neighbours_l3
   simp only
   rw [if_pos (by omega),rd_lt ht,Option.bind_some,ringEdges_eq _ (hb.2 _ (List.getElem_mem ht)),Option.bind_some,apdn (by unfold edgesP;rw [List.length_map,List.length_range,List.length_singleton];omega),Option.bind_some,w64_succ (by omega)]
   unfold edgesP
   rw [List.range_succ,List.map_append,List.map_singleton,rg_lt ht]
  ·unfold impl_neighbours_l3
   simp only
   rw [if_neg (by omega)]
 rw [e]
 have hl:(edgesP d d.Faces.length).length=d.Faces.length:=by unfold edgesP;rw [List.length_map,List.length_range]
 simp only [Option.bind_some,hl]
 unfold mkl
 rw [if_pos ⟨by omega,by omega⟩,Option.bind_some]
 have ed:∀k:Nat,k<d.Faces.length→rd (edgesP d d.Faces.length) (k:Int)=some ((er (rg d k)).map mm):=by
  intro k hk
  rw [rd_lt (by omega)]
  unfold edgesP
  rw [List.getElem_map,List.getElem_range]
 have inner:∀(t:Nat),t<d.Faces.length→∀(out:List (List Int)),out.length=d.Faces.length→out.set t []=out→loopO (impl_neighbours_l12 (edgesP d d.Faces.length) (t:Int)) (0,out)=some (out.set t (nearP d t d.Faces.length)):=by
  intro t ht out ho hz
  have h0:(((0:Nat):Int),out.set t (nearP d t 0))=((0:Int),out):=by
   rw [show nearP d t 0=[] from rfl,hz];rfl
  rw [←h0]
  refine loopO_for (fun m:Nat=>((m:Int),out.set t (nearP d t m))) d.Faces.length (fun m hm=>?_) ?_
  ·have hn:=nearP_len d t m
   unfold impl_neighbours_l12
   simp only
   rw [hl,if_pos (by omega),nearP_succ]
   unfold impl_neighbours_k16
   rw [w64_succ (by omega)]
   by_cases c1:m=t
   ·subst c1
    simp only [ne_eq,not_true_eq_false,if_false,false_and,Option.bind_some,Bool.false_eq_true]
   ·rw [if_pos (show (t:Int)≠(m:Int) by omega),ed t ht]
    have hc:∀p:Int×Int,impl_neighbours_c1 (mm p) (edgesP d d.Faces.length) (m:Int)=some ((er (rg d m)).any (he p)):=by
     intro p
     unfold impl_neighbours_c1
     rw [ed m hm,Option.bind_some,has2 _ (by rw [er_len];exact bR_rg hb m),Option.bind_some]
    simp only [Option.bind_some]
    rw [hasF2 (V:=fun p=>(er (rg d m)).any (he p)) (er (rg d t)) (by rw [er_len];exact bR_rg hb t) hc]
    simp only [Option.bind_some]
    rw [show ((er (rg d t)).any fun p=>(er (rg d m)).any (he p))=fc (rg d t) (rg d m) from rfl]
    rw [rd_set (by omega)]
    cases hfc:fc (rg d t) (rg d m) with
    | false=>simp
    | true=>
     simp only [if_true,Option.bind_some,and_true]
     rw [if_pos c1,apdn (by simp only [List.length_singleton];omega),Option.bind_some,show ((t:Int)).toNat=t from rfl,List.set_set]
  ·unfold impl_neighbours_l12
   simp only
   rw [hl,if_neg (by omega)]
 have h0:(((0:Nat):Int),rowsP (fun k=>nearP d k d.Faces.length) [] 0 d.Faces.length)=((0:Int),List.replicate (d.Faces.length:Int).toNat ([]:List Int)):=by
  unfold rowsP
  simp
 rw [←h0]
 have e2:loopO (impl_neighbours_l9 (edgesP d d.Faces.length)) (((0:Nat):Int),rowsP (fun k=>nearP d k d.Faces.length) [] 0 d.Faces.length)=some (rowsP (fun k=>nearP d k d.Faces.length) [] d.Faces.length d.Faces.length):=by
  refine loopO_for (fun t:Nat=>((t:Int),rowsP (fun k=>nearP d k d.Faces.length) [] t d.Faces.length)) d.Faces.length (fun t ht=>?_) ?_
  ·unfold impl_neighbours_l9
   simp only
   rw [hl,if_pos (by omega),inner t ht _ (rowsP_len (Nat.le_of_lt ht)) (rowsP_same ht),Option.bind_some,w64_succ (by omega)]
   rw [←rowsP_set ht]
  ·unfold impl_neighbours_l9
   simp only
   rw [hl,if_neg (by omega)]
 rw [e2,rowsP_all];rfl
def mnS (z:Int) (f:Nat→Int):Nat→Int
 | 0=>z
 | n+1=>if n=0∨f n<mnS z f n then f n else mnS z f n
theorem mnS_min (z:Int) (f:Nat→Int):∀n,0<n→(∃i,i<n∧mnS z f n=f i)∧∀i,i<n→mnS z f n≤f i:=by
 intro n
 induction n with
 | zero=>intro h;omega
 | succ n ih=>
  intro _
  by_cases c:n=0
  ·subst c
   have e:mnS z f (0+1)=f 0:=by unfold mnS;rw [if_pos (.inl rfl)]
   rw [e]
   exact ⟨⟨0,by omega,rfl⟩,fun i hi=>by
    obtain rfl:i=0:=by omega
    exact Int.le_refl _⟩
  ·obtain ⟨⟨i,hi,he⟩,hm⟩:=ih (by omega)
   unfold mnS
   by_cases c2:f n<mnS z f n
   ·rw [if_pos (.inr c2)]
    refine ⟨⟨n,by omega,rfl⟩,fun k hk=>?_⟩
    by_cases e:k=n
    ·subst e;exact Int.le_refl _
    ·have:=hm k (by omega);omega
   ·rw [if_neg (fun h=>h.elim c c2)]
    refine ⟨⟨i,by omega,he⟩,fun k hk=>?_⟩
    by_cases e:k=n
    ·subst e;omega
    ·exact hm k (by omega)
theorem mnS_same {z1 z2:Int} {f g:Nat→Int} {n:Nat} (hn:0<n) (h1:∀i,i<n→∃j,j<n∧f i=g j) (h2:∀j,j<n→∃i,i<n∧g j=f i):mnS z1 f n=mnS z2 g n:=by
 obtain ⟨⟨i,hi,ei⟩,mi⟩:=mnS_min z1 f n hn
 obtain ⟨⟨j,hj,ej⟩,mj⟩:=mnS_min z2 g n hn
 obtain ⟨j',hj',e1⟩:=h1 i hi
 obtain ⟨i',hi',e2⟩:=h2 j hj
 have a1:=mj j' hj'
 have a2:=mi i' hi'
 omega
def angP (a b:Int):Int:=min2 (max2 (a - b) (b - a)) (180 - max2 (a - b) (b - a))
def ctP (a b:S_Veneer):Int:=max2 (a.Shade - b.Shade) (b.Shade - a.Shade)+(angP a.Grain b.Grain).tdiv 6
def okV (a:S_Veneer):Prop:=0≤a.Shade∧a.Shade≤100∧0≤a.Grain∧a.Grain≤179
theorem venV_ok {a:S_Veneer} (h:venV a=true):okV a:=by
 have e:=ven_i a
 rw [h] at e
 unfold impl_ValidVeneer at e
 simp only [within_eq] at e
 cases hs:impl_speciesShade a.Species with
 | none=>rw [hs] at e;cases e
 | some x=>
  rw [hs] at e
  simp only [Option.bind_some] at e
  cases h2:x.2 with
  | false=>rw [h2] at e;cases e
  | true=>
   rw [h2] at e
   by_cases c1:0≤a.Shade∧a.Shade≤100
   ·by_cases c3:0≤a.Grain∧a.Grain≤179
    ·exact ⟨c1.1,c1.2,c3.1,c3.2⟩
    ·rw [decide_eq_true c1,decide_eq_false c3] at e
     simp at e
   ·rw [decide_eq_false c1] at e
    simp at e
theorem max_s (a b:Int):spec_l00Max a b=some (max2 a b):=by
 unfold spec_l00Max
 rcases max2_cases a b with h | h<;>rw [h.2]
 ·rw [if_neg (by omega)]
 ·by_cases c:a>b
  ·rw [if_pos c]
  ·rw [if_neg c];congr 1;omega
theorem min_s (a b:Int):spec_l00Min a b=some (min2 a b):=by
 unfold spec_l00Min
 rcases min2_cases a b with h | h<;>rw [h.2]
 ·rw [if_neg (by omega)]
 ·by_cases c:a<b
  ·rw [if_pos c]
  ·rw [if_neg c];congr 1;omega
theorem ang_r {a b:S_Veneer} (ha:okV a) (hb:okV b):0≤angP a.Grain b.Grain∧angP a.Grain b.Grain≤180∧-200≤max2 (a.Grain - b.Grain) (b.Grain - a.Grain)∧max2 (a.Grain - b.Grain) (b.Grain - a.Grain)≤200∧0≤max2 (a.Shade - b.Shade) (b.Shade - a.Shade)∧max2 (a.Shade - b.Shade) (b.Shade - a.Shade)≤100:=by
 obtain ⟨a1,a2,a3,a4⟩:=ha
 obtain ⟨b1,b2,b3,b4⟩:=hb
 unfold angP
 rcases max2_cases (a.Grain - b.Grain) (b.Grain - a.Grain) with h | h<;>rcases max2_cases (a.Shade - b.Shade) (b.Shade - a.Shade) with h' | h'<;>rw [h.2,h'.2]
 all_goals
  rcases min2_cases (b.Grain - a.Grain) (180 - (b.Grain - a.Grain)) with k | k<;>rcases min2_cases (a.Grain - b.Grain) (180 - (a.Grain - b.Grain)) with k' | k'<;>first | rw [k.2] | rw [k'.2]
  all_goals omega
theorem ct_0 {a b:S_Veneer} (ha:okV a) (hb:okV b):0≤ctP a b∧ctP a b≤200:=by
 obtain ⟨h1,h2,_,_,h3,h4⟩:=ang_r ha hb
 unfold ctP
 have e:(angP a.Grain b.Grain).tdiv 6=angP a.Grain b.Grain / 6:=Int.tdiv_eq_ediv_of_nonneg h1
 rw [e]
 omega
theorem ct_s {a b:S_Veneer} (ha:okV a) (hb:okV b):spec_l07Contrast a b=some (ctP a b):=by
 obtain ⟨h1,h2,h5,h6,h3,h4⟩:=ang_r ha hb
 have h0:=ct_0 ha hb
 obtain ⟨a1,a2,a3,a4⟩:=ha
 obtain ⟨b1,b2,b3,b4⟩:=hb
 unfold spec_l07Contrast spec_l07Angle
 rw [w64_id (n:=a.Shade - b.Shade) (by omega) (by omega),w64_id (n:=b.Shade - a.Shade) (by omega) (by omega),w64_id (n:=a.Grain - b.Grain) (by omega) (by omega),w64_id (n:=b.Grain - a.Grain) (by omega) (by omega),max_s,max_s,Option.bind_some,Option.bind_some,
  w64_id (n:=180 - max2 (a.Grain - b.Grain) (b.Grain - a.Grain)) (by omega) (by omega),min_s,Option.bind_some,Option.bind_some]
 have e:dv .i64 (angP a.Grain b.Grain) 6=some ((angP a.Grain b.Grain).tdiv 6):=by
  unfold dv
  rw [if_neg (by decide)]
  congr 1
  have e:(angP a.Grain b.Grain).tdiv 6=angP a.Grain b.Grain / 6:=Int.tdiv_eq_ediv_of_nonneg h1
  exact w64_id (by rw [e];omega) (by rw [e];omega)
 show (dv .i64 (angP a.Grain b.Grain) 6).bind _=_
 rw [e,Option.bind_some]
 show some (w64 (ctP a b))=_
 rw [w64_id (by omega) (by omega)]
theorem ct_i {a b:S_Veneer} (ha:okV a) (hb:okV b):impl_contrast a b=some (ctP a b):=by
 obtain ⟨h1,h2,h5,h6,h3,h4⟩:=ang_r ha hb
 have h0:=ct_0 ha hb
 obtain ⟨a1,a2,a3,a4⟩:=ha
 obtain ⟨b1,b2,b3,b4⟩:=hb
 unfold impl_contrast impl_GrainAngle
 simp only [within_eq]
 rw [decide_eq_true (show 0≤a.Grain∧a.Grain≤179 from ⟨a3,a4⟩),decide_eq_true (show 0≤b.Grain∧b.Grain≤179 from ⟨b3,b4⟩)]
 simp only [Option.bind_some,if_true,Bool.not_true,Bool.false_eq_true,if_false]
 rw [w64_id (n:=a.Shade - b.Shade) (by omega) (by omega),w64_id (n:=b.Shade - a.Shade) (by omega) (by omega),w64_id (n:=a.Grain - b.Grain) (by omega) (by omega),w64_id (n:=b.Grain - a.Grain) (by omega) (by omega),
  w64_id (n:=180 - max2 (a.Grain - b.Grain) (b.Grain - a.Grain)) (by omega) (by omega)]
 have e:dv .i64 (angP a.Grain b.Grain) 6=some ((angP a.Grain b.Grain).tdiv 6):=by
  unfold dv
  rw [if_neg (by decide)]
  congr 1
  have e:(angP a.Grain b.Grain).tdiv 6=angP a.Grain b.Grain / 6:=Int.tdiv_eq_ediv_of_nonneg h1
  exact w64_id (by rw [e];omega) (by rw [e];omega)
 show (dv .i64 (angP a.Grain b.Grain) 6).bind _=_
 rw [e,Option.bind_some]
 show some (w64 (ctP a b))=_
 rw [w64_id (by omega) (by omega)]
section
variable {S:List S_Veneer} (hS:∀x∈S,okV x) (hN:S.length≤8) (h1:1≤S.length)
def gV (S:List S_Veneer) (i:Nat):S_Veneer:=S.getD i ⟨⟨#[]⟩,0,0⟩
include hS in
theorem gV_rd {i:Nat} (h:i<S.length):rd S (i:Int)=some (gV S i)∧okV (gV S i):=by
 have e:gV S i=S[i]:=by unfold gV;rw [List.getD_eq_getElem?_getD,List.getElem?_eq_getElem h];rfl
 rw [e]
 exact ⟨rd_lt h,hS _ (List.getElem_mem h)⟩
def cmP (S:List S_Veneer) (a b:Nat) (n:Nat):Int:=mnS 0 (fun i=>ctP (gV S ((i+a) % S.length)) (gV S ((i+b) % S.length))) n
def csP (S:List S_Veneer) (by_:Nat) (n:Nat):Int:=mnS (-1) (fun i=>ctP (gV S i) (gV S ((i+by_) % S.length))) n
include hS hN h1
theorem cm_s {a b:Nat} (ha:a<S.length) (hb:b<S.length):spec_l15Contrast S (a:Int) (b:Int)=some (cmP S a b S.length):=by
 unfold spec_l15Contrast
 have e:loopO (spec_l15Contrast_l4 (a:Int) (b:Int) S) (0,0)=some (cmP S a b S.length):=by
  refine loopO_for (fun i:Nat=>(cmP S a b i,(i:Int))) S.length (fun i hi=>?_) ?_
  ·have k1:(i+a) % S.length<S.length:=Nat.mod_lt _ (by omega)
   have k2:(i+b) % S.length<S.length:=Nat.mod_lt _ (by omega)
   obtain ⟨r1,o1⟩:=gV_rd hS k1
   obtain ⟨r2,o2⟩:=gV_rd hS k2
   unfold spec_l15Contrast_l4 spec_l15Contrast_k5
   simp only
   rw [if_pos (by omega),w64_id (n:=(i:Int)+(a:Int)) (by omega) (by omega),w64_id (n:=(i:Int)+(b:Int)) (by omega) (by omega),w64_succ (by omega),
    show (i:Int)+(a:Int)=((i+a:Nat):Int) by omega,show (i:Int)+(b:Int)=((i+b:Nat):Int) by omega,md_nat (by omega),md_nat (by omega),Option.bind_some,r1,Option.bind_some,Option.bind_some,r2,Option.bind_some,ct_s o1 o2,Option.bind_some]
   unfold cmP
   rw [show mnS 0 (fun i=>ctP (gV S ((i+a) % S.length)) (gV S ((i+b) % S.length))) (i+1)=if i=0∨ctP (gV S ((i+a) % S.length)) (gV S ((i+b) % S.length)) <mnS 0 (fun i=>ctP (gV S ((i+a) % S.length)) (gV S ((i+b) % S.length))) i then ctP (gV S ((i+a) % S.length)) (gV S ((i+b) % S.length)) else mnS 0 (fun i=>ctP (gV S ((i+a) % S.length)) (gV S ((i+b) % S.length))) i from rfl]
   generalize mnS 0 (fun i=>ctP (gV S ((i+a) % S.length)) (gV S ((i+b) % S.length))) i=u
   generalize ctP (gV S ((i+a) % S.length)) (gV S ((i+b) % S.length))=c
   by_cases q:i=0∨c<u
   ·rw [if_pos q,if_pos (by omega)]
   ·rw [if_neg q,if_neg (by omega)]
  ·unfold spec_l15Contrast_l4
   simp only
   rw [if_neg (by omega)]
 rw [e]
 rfl
theorem cs_i:impl_sheetContrasts S=some ((List.range S.length).map fun y=>csP S y S.length):=by
 unfold impl_sheetContrasts
 have inner:∀y:Nat,y<S.length→loopO (impl_sheetContrasts_l7 S (y:Int)) (-1,0)=some (csP S y S.length):=by
  intro y hy
  refine loopO_for (fun i:Nat=>(csP S y i,(i:Int))) S.length (fun i hi=>?_) ?_
  ·have k2:(i+y) % S.length<S.length:=Nat.mod_lt _ (by omega)
   obtain ⟨r1,o1⟩:=gV_rd hS hi
   obtain ⟨r2,o2⟩:=gV_rd hS k2
   have h0:=ct_0 o1 o2
   unfold impl_sheetContrasts_l7 impl_sheetContrasts_k12
   simp only
   rw [if_pos (by omega),r1,Option.bind_some,w64_id (n:=(i:Int)+(y:Int)) (by omega) (by omega),w64_succ (by omega),show (i:Int)+(y:Int)=((i+y:Nat):Int) by omega,md_nat (by omega),Option.bind_some,r2,Option.bind_some,ct_i o1 o2,Option.bind_some]
   have hneg:csP S y i<0↔i=0:=by
    constructor
    ·intro h
     by_cases c:i=0
     ·exact c
     ·obtain ⟨⟨j,hj,ej⟩,_⟩:=mnS_min (-1) (fun i=>ctP (gV S i) (gV S ((i+y) % S.length))) i (by omega)
      have e2:csP S y i=ctP (gV S j) (gV S ((j+y) % S.length)):=ej
      have:=(ct_0 (gV_rd hS (show j<S.length by omega)).2 (gV_rd hS (show (j+y) % S.length<S.length from Nat.mod_lt _ (by omega))).2).1
      omega
    ·rintro rfl
     show (-1:Int) <0
     omega
   rw [show csP S y (i+1)=if i=0∨ctP (gV S i) (gV S ((i+y) % S.length)) <csP S y i then ctP (gV S i) (gV S ((i+y) % S.length)) else csP S y i from rfl]
   by_cases q:i=0∨ctP (gV S i) (gV S ((i+y) % S.length)) <csP S y i
   ·rw [if_pos q,if_pos (by rw [hneg];exact q)]
   ·rw [if_neg q,if_neg (by rw [hneg];exact q)]
  ·unfold impl_sheetContrasts_l7
   simp only
   rw [if_neg (by omega)]
 have e:loopO (impl_sheetContrasts_l3 S) (0,[])=some ((List.range S.length).map fun y=>csP S y S.length):=by
  refine loopO_for (fun y:Nat=>((y:Int),(List.range y).map fun y=>csP S y S.length)) S.length (fun y hy=>?_) ?_
  ·unfold impl_sheetContrasts_l3
   simp only
   rw [if_pos (by omega),inner y hy,Option.bind_some,apdn (by rw [List.length_map,List.length_range,List.length_singleton];omega),Option.bind_some,w64_succ (by omega),List.range_succ,List.map_append]
   rfl
  ·unfold impl_sheetContrasts_l3
   simp only
   rw [if_neg (by omega)]
 rw [e]
 rfl
omit hS hN in
theorem cm_cs {a b:Nat} (ha:a<S.length) (hb:b<S.length):cmP S a b S.length=csP S ((b+S.length - a) % S.length) S.length:=by
 have md:∀{x y n:Nat},x<n→y<n→(x+y) % n=if x+y<n then x+y else x+y - n:=by
  intro x y n hx hy
  by_cases c:x+y<n
  ·rw [if_pos c,Nat.mod_eq_of_lt c]
  ·rw [if_neg c,Nat.mod_eq_sub_mod (by omega),Nat.mod_eq_of_lt (by omega)]
 have hd:(b+S.length - a) % S.length=if b<a then b+S.length - a else b - a:=by
  by_cases c:b<a
  ·rw [if_pos c,Nat.mod_eq_of_lt (by omega)]
  ·rw [if_neg c,Nat.mod_eq_sub_mod (by omega),Nat.mod_eq_of_lt (by omega)];omega
 have hdl:(b+S.length - a) % S.length<S.length:=Nat.mod_lt _ (by omega)
 unfold cmP csP
 have key:∀i,i<S.length→((i+a) % S.length+(b+S.length - a) % S.length) % S.length=(i+b) % S.length:=by
  intro i hi
  have k1:(i+a) % S.length<S.length:=Nat.mod_lt _ (by omega)
  rw [md k1 hdl,md hi hb,md hi ha,hd]
  split<;>split<;>split<;>(try split)<;>omega
 refine mnS_same (by omega) (fun i hi=>⟨(i+a) % S.length,Nat.mod_lt _ (by omega),?_⟩) fun j hj=>?_
 ·rw [key i hi]
 ·refine ⟨(j+(S.length - a)) % S.length,Nat.mod_lt _ (by omega),?_⟩
  have hi:(j+(S.length - a)) % S.length<S.length:=Nat.mod_lt _ (by omega)
  have e:((j+(S.length - a)) % S.length+a) % S.length=j:=by
   by_cases c:j+(S.length - a) <S.length
   ·have e1:(j+(S.length - a)) % S.length=j+(S.length - a):=Nat.mod_eq_of_lt c
    rw [e1,Nat.mod_eq_sub_mod (by omega),Nat.mod_eq_of_lt (by omega)];omega
   ·have e1:(j+(S.length - a)) % S.length=j+(S.length - a) - S.length:=by rw [Nat.mod_eq_sub_mod (by omega),Nat.mod_eq_of_lt (by omega)]
    rw [e1,Nat.mod_eq_of_lt (by omega)];omega
  have:=key _ hi
  rw [e] at this
  rw [e,this]
end
theorem he_comm (p q:Int×Int):he p q=he q p:=by
 unfold he
 exact decide_eq_decide.2 (by omega)
theorem fc_comm (R S:List Int):fc R S=fc S R:=by
 unfold fc
 rw [Bool.eq_iff_iff,List.any_eq_true,List.any_eq_true]
 constructor
 ·rintro ⟨p,hp,h⟩
  obtain ⟨q,hq,h2⟩:=List.any_eq_true.1 h
  exact ⟨q,hq,List.any_eq_true.2 ⟨p,hp,by rw [he_comm];exact h2⟩⟩
 ·rintro ⟨p,hp,h⟩
  obtain ⟨q,hq,h2⟩:=List.any_eq_true.1 h
  exact ⟨q,hq,List.any_eq_true.2 ⟨p,hp,by rw [he_comm];exact h2⟩⟩
theorem near_iff {d:S_Drawing} {i k n:Nat}:(k:Int)∈nearP d i n↔k<n∧k≠i∧fc (rg d i) (rg d k)=true:=by
 unfold nearP
 rw [List.mem_map]
 constructor
 ·rintro ⟨m,hm,e⟩
  obtain rfl:m=k:=by omega
  obtain ⟨h1,h2⟩:=List.mem_filter.1 hm
  simp at h2
  exact ⟨List.mem_range.1 h1,h2.1,h2.2⟩
 ·rintro ⟨h1,h2,h3⟩
  exact ⟨k,List.mem_filter.2 ⟨List.mem_range.2 h1,by simp [h2,h3]⟩,rfl⟩
theorem near_sym {d:S_Drawing} {i k n:Nat} (hi:i<n) (h:(k:Int)∈nearP d i n):(i:Int)∈nearP d k n:=by
 obtain ⟨h1,h2,h3⟩:=near_iff.1 h
 exact near_iff.2 ⟨hi,fun e=>h2 e.symm,by rw [fc_comm];exact h3⟩
def prI (i:Nat) (m:List Int):List (List Int):=(m.filter fun x=>decide (x> (i:Int))).map fun x=>[(i:Int),x]
theorem prI_succ {i:Nat} {m:List Int} {j:Nat} (h:j<m.length):prI i (m.take (j+1))=if m[j] > (i:Int) then prI i (m.take j)++[[(i:Int),m[j]]] else prI i (m.take j):=by
 unfold prI
 rw [List.take_succ_eq_append_getElem h,List.filter_append,List.map_append]
 by_cases c:m[j] > (i:Int)
 ·rw [if_pos c]
  simp only [List.filter_cons,List.filter_nil,decide_eq_true c,if_true,List.map_cons,List.map_nil]
 ·rw [if_neg c]
  simp only [List.filter_cons,List.filter_nil,decide_eq_false c,Bool.false_eq_true,if_false,List.map_nil,List.append_nil]
theorem prI_len (i:Nat) (m:List Int):(prI i m).length≤m.length:=by
 unfold prI
 rw [List.length_map]
 exact List.length_filter_le _ m
def prP (d:S_Drawing) (t:Nat):List (List Int):=(List.range t).flatMap fun i=>prI i (nearP d i d.Faces.length)
theorem prP_succ (d:S_Drawing) (t:Nat):prP d (t+1)=prP d t++prI t (nearP d t d.Faces.length):=by
 unfold prP
 rw [List.range_succ,List.flatMap_append,List.flatMap_singleton]
theorem prP_len {d:S_Drawing} (hb:bR d) (t:Nat):(prP d t).length≤t*1048576:=by
 induction t with
 | zero=>exact Nat.le_refl _
 | succ t ih=>
  rw [prP_succ,List.length_append]
  have h1:=prI_len t (nearP d t d.Faces.length)
  have h2:=nearP_len d t d.Faces.length
  have:=hb.1
  omega
theorem prP_mem {d:S_Drawing} {t:Nat} {p:List Int}:p∈prP d t↔∃i x:Nat,i<t∧i<x∧p=[(i:Int),(x:Int)]∧(x:Int)∈nearP d i d.Faces.length:=by
 unfold prP
 rw [List.mem_flatMap]
 constructor
 ·rintro ⟨i,hi,hp⟩
  obtain ⟨x,hx,rfl⟩:=List.mem_map.1 hp
  obtain ⟨h1,h2⟩:=List.mem_filter.1 hx
  have h2:x> (i:Int):=by simpa using h2
  have h3:=nearP_mem h1
  obtain ⟨y,rfl⟩:∃y:Nat,x=(y:Int):=⟨x.toNat,by omega⟩
  exact ⟨i,y,List.mem_range.1 hi,by omega,rfl,h1⟩
 ·rintro ⟨i,x,hi,hx,rfl,h1⟩
  exact ⟨i,List.mem_range.2 hi,List.mem_map.2 ⟨(x:Int),List.mem_filter.2 ⟨h1,by simp;omega⟩,rfl⟩⟩
theorem pairs_s {d:S_Drawing} (hb:bR d):spec_l15Pairs d=some (prP d d.Faces.length):=by
 have hF:=hb.1
 unfold spec_l15Pairs
 have inner:∀(i:Nat) (out:List (List Int)),out.length≤1099511627776→loopO (spec_l15Pairs_l7 (i:Int) (nearP d i d.Faces.length)) (0,out)=some (out++prI i (nearP d i d.Faces.length)):=by
  intro i out ho
  have hl:=nearP_len d i d.Faces.length
  have e:=loopO_for (f:=spec_l15Pairs_l7 (i:Int) (nearP d i d.Faces.length)) (r:=out++prI i (nearP d i d.Faces.length)) (fun j:Nat=>((j:Int),out++prI i ((nearP d i d.Faces.length).take j))) (nearP d i d.Faces.length).length (fun j hj=>by
   have h2:=prI_len i ((nearP d i d.Faces.length).take j)
   rw [List.length_take] at h2
   unfold spec_l15Pairs_l7 spec_l15Pairs_k8
   simp only
   rw [if_pos (by omega),rd_lt hj,Option.bind_some,w64_succ (by omega),prI_succ hj]
   by_cases c:(nearP d i d.Faces.length)[j] > (i:Int)
   ·rw [if_pos c,if_pos c,Option.bind_some,apdn (by rw [List.length_append,List.length_singleton];omega),Option.bind_some,List.append_assoc]
   ·rw [if_neg c,if_neg c]) (by
   unfold spec_l15Pairs_l7
   simp only
   rw [if_neg (by omega),List.take_of_length_le (Nat.le_refl _)])
  have h0:out++prI i ((nearP d i d.Faces.length).take 0)=out:=by
   rw [List.take_zero]
   exact List.append_nil out
  rw [h0] at e
  exact e
 have e:loopO (spec_l15Pairs_l3 d) (0,[])=some (prP d d.Faces.length):=by
  refine loopO_for (fun i:Nat=>((i:Int),prP d i)) d.Faces.length (fun i hi=>?_) ?_
  ·have h2:=prP_len hb i
   unfold spec_l15Pairs_l3
   simp only
   rw [if_pos (by omega),near_spec hb hi,Option.bind_some,inner i _ (by omega),Option.bind_some,w64_succ (by omega),prP_succ]
  ·unfold spec_l15Pairs_l3
   simp only
   rw [if_neg (by omega)]
 rw [e]
 rfl
section
variable {d:S_Drawing} (hb:bR d) {S:List S_Veneer} (hS:∀x∈S,okV x) (hN:S.length≤8) (h1:1≤S.length)
def toI (G:List Nat):List Int:=G.map fun g:Nat=>(g:Int)
theorem toI_len (G:List Nat):(toI G).length=G.length:=by unfold toI;rw [List.length_map]
theorem toI_app (G:List Nat) (t:Nat):toI G++[(t:Int)]=toI (G++[t]):=by
 unfold toI
 rw [List.map_append];rfl
theorem toI_rd {G:List Nat} {i:Nat} (h:i<G.length):rd (toI G) (i:Int)=some ((G.getD i 0:Nat):Int):=by
 rw [rd_lt (by rw [toI_len];exact h)]
 unfold toI
 rw [List.getElem_map,List.getD_eq_getElem?_getD,List.getElem?_eq_getElem h]
 rfl
def badP (S:List S_Veneer) (least:Int) (G:List Nat) (t:Nat) (p:List Int):Bool:=decide (p.getD 1 0=(G.length:Int))&&decide (cmP S (G.getD (p.getD 0 0).toNat 0) t S.length<least)
def goodP (S:List S_Veneer) (least:Int) (G:List Nat) (t:Nat) (m:Int):Bool:=decide (m> (G.length:Int))||decide (csP S ((t+S.length - G.getD m.toNat 0) % S.length) S.length≥least)
theorem getD_lt {G:List Nat} {N:Nat} (hG:∀g∈G,g<N) (hN:0<N) (i:Nat):G.getD i 0<N:=by
 rw [List.getD_eq_getElem?_getD]
 cases e:G[i]? with
 | none=>exact hN
 | some x=>exact hG x (List.mem_of_getElem? e)
include hb hS hN h1
omit hb hS hN in
theorem bad_good (least:Int) {G:List Nat} (hG:∀g∈G,g<S.length) (hk:G.length<d.Faces.length) {t:Nat} (ht:t<S.length):
 (!((prP d d.Faces.length).any (badP S least G t)))=(nearP d G.length d.Faces.length).all (goodP S least G t):=by
 rw [Bool.eq_iff_iff,Bool.not_eq_true',List.any_eq_false,List.all_eq_true]
 have key:∀i:Nat,cmP S (G.getD i 0) t S.length=csP S ((t+S.length - G.getD i 0) % S.length) S.length:=fun i=>cm_cs h1 (getD_lt hG (by omega) i) ht
 constructor
 ·intro h m hm
  obtain ⟨m0,m1⟩:=nearP_mem hm
  obtain ⟨i,rfl⟩:∃i:Nat,m=(i:Int):=⟨m.toNat,by omega⟩
  unfold goodP
  by_cases c:(i:Int) > (G.length:Int)
  ·rw [decide_eq_true c];rfl
  ·have hne:=(near_iff.1 hm).2.1
   have hin:i<G.length:=by omega
   have hp:[(i:Int),(G.length:Int)]∈prP d d.Faces.length:=prP_mem.2 ⟨i,G.length,by omega,hin,rfl,near_sym hk hm⟩
   have:=h _ hp
   unfold badP at this
   simp at this
   rw [decide_eq_false c,Bool.false_or,decide_eq_true_eq]
   have e:=key i
   show csP S ((t+S.length - G.getD i 0) % S.length) S.length≥least
   rw [←e]
   simpa [List.getD_eq_getElem?_getD] using this
 ·intro h p hp
  obtain ⟨i,x,hi,hx,rfl,hm⟩:=prP_mem.1 hp
  unfold badP
  by_cases c:(x:Int)=(G.length:Int)
  ·obtain rfl:x=G.length:=by omega
   have:=h _ (near_sym hi hm)
   unfold goodP at this
   rw [decide_eq_false (show ¬(i:Int) > (G.length:Int) by omega),Bool.false_or,decide_eq_true_eq] at this
   have this:csP S ((t+S.length - G.getD i 0) % S.length) S.length≥least:=this
   rw [←key i] at this
   show ¬(decide ((G.length:Int)=(G.length:Int))&&decide (cmP S (G.getD i 0) t S.length<least))=true
   simp only [Bool.and_eq_true,decide_eq_true_eq,not_and]
   intro _
   omega
  ·show ¬(decide ((x:Int)=(G.length:Int))&&_)=true
   rw [decide_eq_false c]
   simp
theorem fits_s (least:Int) (fi:Bool) (bs:List Int) (c n B:Int) {G:List Nat} (hG:∀g∈G,g<S.length) (hk:G.length<d.Faces.length) {t:Nat} (ht:t<S.length):
 spec_l15Search_fits (some ⟨prP d d.Faces.length,(d.Faces.length:Int),S,least,toI (G++[t]),fi,bs,c,n,B⟩)=some (!((prP d d.Faces.length).any (badP S least G t))):=by
 have hF:=hb.1
 have hl:=prP_len hb d.Faces.length
 have hlen:((toI (G++[t])).length:Int) - 1=(G.length:Int):=by rw [toI_len,List.length_append,List.length_singleton];omega
 unfold spec_l15Search_fits
 simp only
 rcases scanFind (f:=spec_l15Search_fits_l3 ⟨prP d d.Faces.length,(d.Faces.length:Int),S,least,toI (G++[t]),fi,bs,c,n,B⟩) (prP d d.Faces.length) (badP S least G t) (fun _=>false) (by omega) (fun i hi=>by
  obtain ⟨a,x,ha,hx,hp,hm⟩:=prP_mem.1 (List.getElem_mem hi)
  unfold spec_l15Search_fits_l3
  simp only
  rw [if_pos (by omega),rd_lt hi,Option.bind_some,hp]
  simp only [hlen]
  rw [w64_id (n:=(G.length:Int)) (by omega) (by omega)]
  rw [show rd [(a:Int),(x:Int)] 1=some (x:Int) from rfl,Option.bind_some]
  rw [show badP S least G t [(a:Int),(x:Int)]=(decide ((x:Int)=(G.length:Int))&&decide (cmP S (G.getD a 0) t S.length<least)) from rfl]
  by_cases cx:(x:Int)=(G.length:Int)
  ·rw [if_pos cx,decide_eq_true cx,Option.bind_some,show rd [(a:Int),(x:Int)] 0=some (a:Int) from rfl,Option.bind_some,toI_rd (by rw [List.length_append];omega),Option.bind_some,toI_rd (by rw [List.length_append,List.length_singleton];omega),Option.bind_some]
   have ea:(G++[t]).getD a 0=G.getD a 0:=by rw [List.getD_eq_getElem?_getD,List.getElem?_append_left (by omega),List.getD_eq_getElem?_getD]
   have et:(G++[t]).getD G.length 0=t:=by rw [List.getD_eq_getElem?_getD,List.getElem?_append_right (Nat.le_refl _),Nat.sub_self];rfl
   rw [ea,et,cm_s hS hN h1 (getD_lt hG (by omega) a) ht,Option.bind_some,Option.bind_some,Bool.true_and]
  ·rw [if_neg cx,decide_eq_false cx]
   rfl) (by unfold spec_l15Search_fits_l3;simp only;rw [if_neg (by omega)]) with ⟨q1,q2⟩ | ⟨i,hi,q1,_,q2⟩
 ·rw [q2,List.any_eq_false.2 fun x hx=>by simpa using q1 x hx]
  rfl
 ·rw [q2,List.any_eq_true.2 ⟨_,List.getElem_mem hi,q1⟩]
  rfl
abbrev FC:=S_l15Search→Option (Bool×S_l15Search)
abbrev FD:=(S_shiftSearch×List Int)→Option (Bool×S_shiftSearch)
noncomputable abbrev SS:FD:=fun s=>impl_shiftSearch_run s.1 s.2
omit hS hN in
theorem good_i (s0:S_shiftSearch) (hc:s0.contrasts.length=S.length) (hN:S.length≤8) (least:Int) {G:List Nat} (hG:∀g∈G,g<S.length) (hk:G.length<d.Faces.length) {t:Nat} (ht:t<S.length):
 loopO (impl_shiftSearch_run_l15 SS s0 ((List.range S.length).map fun y=>csP S y S.length) least (toI G) (t:Int) (nearP d G.length d.Faces.length)) (true,0)=some ((nearP d G.length d.Faces.length).all (goodP S least G t)):=by
 have hF:=hb.1
 have hl:=nearP_len d G.length d.Faces.length
 have at_:∀{l:List Int} {p:Int→Bool} {i:Nat} (h:i<l.length),(l.take (i+1)).all p=((l.take i).all p&&p l[i]):=by
  intro l p i h
  rw [List.take_succ_eq_append_getElem h,List.all_append,List.all_cons,List.all_nil,Bool.and_true]
 refine loopO_for (fun j:Nat=>(((nearP d G.length d.Faces.length).take j).all (goodP S least G t),(j:Int))) (nearP d G.length d.Faces.length).length (fun j hj=>?_) ?_
 ·have hm:=List.getElem_mem hj
  obtain ⟨m0,m1⟩:=nearP_mem hm
  unfold impl_shiftSearch_run_l15
  simp only
  rw [if_pos (by omega),rd_lt hj,Option.bind_some,at_ hj,toI_len,hc,w64_succ (by omega)]
  cases ((nearP d G.length d.Faces.length).take j).all (goodP S least G t) with
  | false=>rfl
  | true=>
   rw [if_pos rfl,Bool.true_and]
   generalize hx:(nearP d G.length d.Faces.length)[j]=m at m0 m1 hm
   obtain ⟨i,rfl⟩:∃i:Nat,m=(i:Int):=⟨m.toNat,by omega⟩
   unfold goodP
   by_cases c:(i:Int) > (G.length:Int)
   ·rw [if_pos c,decide_eq_true c];rfl
   ·have hne:=(near_iff.1 hm).2.1
    have hg:=getD_lt hG (by omega) i
    have hd':(t+S.length - G.getD i 0) % S.length<S.length:=Nat.mod_lt _ (by omega)
    rw [if_neg c,decide_eq_false c,toI_rd (by omega),Option.bind_some,w64_id (n:=(t:Int) - ((G.getD i 0:Nat):Int)) (by omega) (by omega),w64_id (n:=(t:Int) - ((G.getD i 0:Nat):Int)+(S.length:Int)) (by omega) (by omega),
     show (t:Int) - ((G.getD i 0:Nat):Int)+(S.length:Int)=((t+S.length - G.getD i 0:Nat):Int) by omega,md_nat (by omega),Option.bind_some,rd_lt (by rw [List.length_map,List.length_range];exact hd'),Option.bind_some,List.getElem_map,List.getElem_range]
    rfl
 ·unfold impl_shiftSearch_run_l15
  simp only
  rw [if_neg (by omega),List.take_of_length_le (Nat.le_refl _)]
omit hb hS hN h1 in
theorem fs_visit (x:S_l15Search):Fs (fun self:FC=>spec_l15Search_visit_F self x):=by
 unfold spec_l15Search_visit_F
 have k8:∀a b,Fs (fun self:FC=>spec_l15Search_visit_k8 self a b):=by
  intros
  unfold spec_l15Search_visit_k8
  exact Fs.const _
 refine Fs.ite (Fs.const _) (Fs.ite (Fs.ite (Fs.bind (Fs.const _) fun _=>k8 _ _) (k8 _ _)) (Fs.bind (Fs.loop (fun s=>?_) _) fun o=>Fs.const _))
 obtain ⟨a1,a2,a3,a4,a5,a6,a7,a8,a9,a10,a11⟩:=s
 unfold spec_l15Search_visit_l10
 exact Fs.ite (Fs.bind (Fs.const _) fun _=>Fs.bind (Fs.const _) fun _=>Fs.bind (Fs.ite (Fs.bind (Fs.app _) fun _=>Fs.const _) (Fs.const _)) fun _=>Fs.const _) (Fs.const _)
omit hb hS hN h1 in
theorem visit_eq (x:S_l15Search):spec_l15Search_visit x=spec_l15Search_visit_F spec_l15Search_visit x:=by
 show fixO _ _=_
 rw [fixO_eq]
 ·rfl
 ·exact fs_visit
omit hb hS hN h1 in
theorem fs_run (x:S_shiftSearch) (F:List Int):Fs (fun self:FD=>impl_shiftSearch_run_F self x F):=by
 unfold impl_shiftSearch_run_F
 have k8:∀a b,Fs (fun self:FD=>impl_shiftSearch_run_k8 self a b):=by
  intros
  unfold impl_shiftSearch_run_k8
  exact Fs.const _
 refine Fs.ite (Fs.const _) (Fs.ite (Fs.ite (k8 _ _) (k8 _ _)) (Fs.bind (Fs.loop (fun s=>?_) _) fun o=>Fs.const _))
 obtain ⟨a1,a2,a3,a4,a5,a6,a7,a8⟩:=s
 unfold impl_shiftSearch_run_l11
 refine Fs.ite (Fs.bind (Fs.const _) fun _=>Fs.bind (Fs.loop (fun s=>?_) _) fun _=>Fs.bind (Fs.ite (Fs.bind (Fs.const _) fun _=>Fs.bind (Fs.const _) fun _=>Fs.bind (Fs.app _) fun _=>Fs.const _) (Fs.const _)) fun _=>Fs.const _) (Fs.const _)
 obtain ⟨b1,b2⟩:=s
 unfold impl_shiftSearch_run_l15
 exact Fs.const _
omit hb hS hN h1 in
theorem run_eq (x:S_shiftSearch) (F:List Int):impl_shiftSearch_run x F=impl_shiftSearch_run_F SS x F:=by
 show fixO _ _=_
 rw [fixO_eq]
 ·rfl
 ·rintro ⟨x,F⟩
  exact fs_run x F
theorem search_eq (least:Int) (fi:Bool) {B:Int} (hB:B≤20000):
 ∀(m:Nat) (G:List Nat) (bs bi:List Int) (c n:Int),(B - n).toNat≤m→0≤n→n≤B→0≤c→c≤n→(G.length:Int)≤n→(∀g∈G,g<S.length)→G.length≤d.Faces.length→(c>0→bs=bi)→(bs.length:Int)≤20001→(bi.length:Int)≤20001→
  ∃r c' n' bs' bi',spec_l15Search_visit ⟨prP d d.Faces.length,(d.Faces.length:Int),S,least,toI G,fi,bs,c,n,B⟩=some (r,⟨prP d d.Faces.length,(d.Faces.length:Int),S,least,toI G,fi,bs',c',n',B⟩)∧
   impl_shiftSearch_run ⟨(List.range d.Faces.length).map fun k=>nearP d k d.Faces.length,(List.range S.length).map fun y=>csP S y S.length,least,B - n,c,bi,fi⟩ (toI G)=some (!r,⟨(List.range d.Faces.length).map fun k=>nearP d k d.Faces.length,(List.range S.length).map fun y=>csP S y S.length,least,B - n',c',bi',fi⟩)∧
   n<n'∧n'≤B+1∧(r=true→n'≤B)∧c≤c'∧c'≤n'∧(c'>0→bs'=bi')∧(bs'.length:Int)≤20001∧(bi'.length:Int)≤20001:=by
 have hF:=hb.1
 have hnl:((List.range d.Faces.length).map fun k=>nearP d k d.Faces.length).length=d.Faces.length:=by rw [List.length_map,List.length_range]
 have hcl:((List.range S.length).map fun y=>csP S y S.length).length=S.length:=by rw [List.length_map,List.length_range]
 intro m
 induction m with
 | zero=>
  intro G bs bi c n hm h0 h1 h2 h3 h4 hG hGl h5 h6 h7
  obtain rfl:n=B:=by omega
  rw [visit_eq,run_eq]
  unfold spec_l15Search_visit_F impl_shiftSearch_run_F
  simp only
  rw [w64_id (n:=n+1) (by omega) (by omega),if_pos (by omega),w64_id (n:=n - n - 1) (by omega) (by omega),if_pos (by omega)]
  exact ⟨false,c,n+1,bs,bi,rfl,by rw [show n - (n+1)=n - n - 1 by omega];rfl,by omega,by omega,(fun h=>by cases h),by omega,by omega,h5,h6,h7⟩
 | succ m ih=>
  intro G bs bi c n hm h0 h1' h2 h3 h4 hG hGl h5 h6 h7
  have tl:=toI_len G
  rw [visit_eq,run_eq]
  unfold spec_l15Search_visit_F impl_shiftSearch_run_F
  simp only
  rw [w64_id (n:=n+1) (by omega) (by omega),w64_id (n:=B - n - 1) (by omega) (by omega)]
  by_cases cB:n+1>B
  ·rw [if_pos cB,if_pos (by omega)]
   exact ⟨false,c,n+1,bs,bi,rfl,by rw [show B - (n+1)=B - n - 1 by omega];rfl,by omega,by omega,(fun h=>by cases h),by omega,by omega,h5,h6,h7⟩
  ·rw [if_neg cB,if_neg (show ¬B - n - 1<0 by omega),hnl]
   by_cases cL:((toI G).length:Int)=(d.Faces.length:Int)
   ·rw [if_pos cL,if_pos cL,w64_id (n:=c+1) (by omega) (by omega)]
    unfold spec_l15Search_visit_k8 impl_shiftSearch_run_k8 spec_l00Own
    simp only
    rw [w64_id (n:=n+1) (by omega) (by omega),w64_id (n:=B - n - 1) (by omega) (by omega),w64_id (n:=c+1) (by omega) (by omega)]
    by_cases cc:c=0
    ·rw [if_pos (by omega),if_pos cc,apdn (by simp only [List.length_nil];omega)]
     exact ⟨!fi,c+1,n+1,toI G,toI G,rfl,by rw [Bool.not_not,show B - (n+1)=B - n - 1 by omega],by omega,by omega,(fun _=>by omega),by omega,by omega,fun _=>rfl,by omega,by omega⟩
    ·rw [if_neg (by omega),if_neg cc]
     exact ⟨!fi,c+1,n+1,bs,bi,rfl,by rw [Bool.not_not,show B - (n+1)=B - n - 1 by omega],by omega,by omega,(fun _=>by omega),by omega,by omega,fun _=>h5 (by omega),h6,h7⟩
   ·rw [if_neg cL,if_neg cL]
    have hk:G.length<d.Faces.length:=by omega
    have lp:∀(c0:Int) (bi0:List Int) (k i:Nat) (bs bi:List Int) (c n':Int),i+k=S.length→n+1≤n'→n'≤B→0≤c→c≤n'→(c>0→bs=bi)→(bs.length:Int)≤20001→(bi.length:Int)≤20001→
     ∃r c' n'' bs' bi',loopO (spec_l15Search_visit_l10 spec_l15Search_visit) ((i:Int),prP d d.Faces.length,(d.Faces.length:Int),S,least,toI G,fi,bs,c,n',B)=some (if r=true then .inl (prP d d.Faces.length,(d.Faces.length:Int),S,least,toI G,fi,bs',c',n'',B) else .inr (false,⟨prP d d.Faces.length,(d.Faces.length:Int),S,least,toI G,fi,bs',c',n'',B⟩))∧
      loopO (impl_shiftSearch_run_l11 SS ⟨(List.range d.Faces.length).map fun k=>nearP d k d.Faces.length,(List.range S.length).map fun y=>csP S y S.length,least,B - n,c0,bi0,fi⟩ (toI G)) ((i:Int),(List.range d.Faces.length).map fun k=>nearP d k d.Faces.length,(List.range S.length).map fun y=>csP S y S.length,least,B - n',c,bi,fi)=some (if r=true then .inl ((List.range d.Faces.length).map fun k=>nearP d k d.Faces.length,(List.range S.length).map fun y=>csP S y S.length,least,B - n'',c',bi',fi) else .inr (true,⟨(List.range d.Faces.length).map fun k=>nearP d k d.Faces.length,(List.range S.length).map fun y=>csP S y S.length,least,B - n'',c',bi',fi⟩))∧
      n'≤n''∧n''≤B+1∧(r=true→n''≤B)∧c≤c'∧c'≤n''∧(c'>0→bs'=bi')∧(bs'.length:Int)≤20001∧(bi'.length:Int)≤20001:=by
     intro c0 bi0 k
     induction k with
     | zero=>
      intro i bs bi c n' hi g1 g2 g3 g4 g5 g6 g7
      refine ⟨true,c,n',bs,bi,loopO_done ?_,loopO_done ?_,by omega,by omega,fun _=>g2,by omega,g4,g5,g6,g7⟩
      ·unfold spec_l15Search_visit_l10
       simp only
       rw [if_neg (by omega)];rfl
      ·unfold impl_shiftSearch_run_l11
       simp only
       rw [hcl,if_neg (by omega)];rfl
     | succ k ihk=>
      intro i bs bi c n' hi g1 g2 g3 g4 g5 g6 g7
      have hi':i<S.length:=by omega
      have hfit:=fits_s hb hS hN h1 least fi bs c n' B hG hk hi'
      rw [bad_good h1 least hG hk hi'] at hfit
      have hgood:=good_i hb h1 ⟨(List.range d.Faces.length).map fun k=>nearP d k d.Faces.length,(List.range S.length).map fun y=>csP S y S.length,least,B - n,c0,bi0,fi⟩ hcl hN least hG hk hi'
      generalize (nearP d G.length d.Faces.length).all (goodP S least G i)=go at hfit hgood
      have hl1:((toI (G++[i])).length:Int) - 1=(G.length:Int):=by rw [toI_len,List.length_append,List.length_singleton];omega
      have hnr:rd ((List.range d.Faces.length).map fun k=>nearP d k d.Faces.length) ((toI G).length:Int)=some (nearP d G.length d.Faces.length):=by
       rw [tl,rd_lt (by rw [hnl];exact hk),List.getElem_map,List.getElem_range]
      have hsl:slc (toI (G++[i])) 0 (w64 (((toI (G++[i])).length:Int) - 1))=some (toI G)∧((toI (G++[i])).take ((w64 (((toI (G++[i])).length:Int) - 1)).toNat)).drop 0=toI G:=by
       rw [hl1,w64_id (n:=(G.length:Int)) (by omega) (by omega)]
       have ht:((toI (G++[i])).take ((G.length:Int)).toNat).drop 0=toI G:=by
        rw [List.drop_zero,show ((G.length:Int)).toNat=G.length from rfl,←toI_app,List.take_left' tl]
       refine ⟨?_,ht⟩
       unfold slc
       rw [if_pos ⟨by omega,by omega,by rw [toI_len,List.length_append];omega⟩]
       exact congrArg some ht
      cases hgo:go with
      | false=>
       rw [hgo] at hfit hgood
       have s1:spec_l15Search_visit_l10 spec_l15Search_visit ((i:Int),prP d d.Faces.length,(d.Faces.length:Int),S,least,toI G,fi,bs,c,n',B)=some (.inl (((i+1:Nat):Int),prP d d.Faces.length,(d.Faces.length:Int),S,least,toI G,fi,bs,c,n',B)):=by
        unfold spec_l15Search_visit_l10
        simp only
        rw [if_pos (by omega),apdn (by rw [tl,List.length_singleton];omega),Option.bind_some,toI_app,hfit,Option.bind_some]
        simp only [Bool.false_eq_true,if_false,Option.bind_some,if_true]
        rw [hsl.1,Option.bind_some,hsl.2,w64_succ (by omega)]
       have s2:impl_shiftSearch_run_l11 SS ⟨(List.range d.Faces.length).map fun k=>nearP d k d.Faces.length,(List.range S.length).map fun y=>csP S y S.length,least,B - n,c0,bi0,fi⟩ (toI G) ((i:Int),(List.range d.Faces.length).map fun k=>nearP d k d.Faces.length,(List.range S.length).map fun y=>csP S y S.length,least,B - n',c,bi,fi)=some (.inl (((i+1:Nat):Int),(List.range d.Faces.length).map fun k=>nearP d k d.Faces.length,(List.range S.length).map fun y=>csP S y S.length,least,B - n',c,bi,fi)):=by
        unfold impl_shiftSearch_run_l11
        simp only
        rw [hcl,if_pos (by omega),hnr,Option.bind_some,hgood,Option.bind_some]
        simp only [Bool.false_eq_true,if_false,Option.bind_some]
        rw [w64_succ (by omega)]
       obtain ⟨r,c',n'',bs',bi',q1,q2,q⟩:=ihk (i+1) bs bi c n' (by omega) g1 g2 g3 g4 g5 g6 g7
       exact ⟨r,c',n'',bs',bi',by rw [loopO_next s1];exact q1,by rw [loopO_next s2];exact q2,q⟩
      | true=>
       rw [hgo] at hfit hgood
       obtain ⟨r,c2,n2,bs2,bi2,p1,p2,p3,p4,p5,p6,p7,p8,p9,p10⟩:=ih (G++[i]) bs bi c n' (by omega) (by omega) g2 g3 g4 (by rw [List.length_append,List.length_singleton];omega) (fun g hg=>by
        rcases List.mem_append.1 hg with h | h
        ·exact hG g h
        ·rw [List.mem_singleton.1 h];exact hi') (by rw [List.length_append,List.length_singleton];omega) g5 g6 g7
       have s1:spec_l15Search_visit_l10 spec_l15Search_visit ((i:Int),prP d d.Faces.length,(d.Faces.length:Int),S,least,toI G,fi,bs,c,n',B)=if r=true then some (.inl (((i+1:Nat):Int),prP d d.Faces.length,(d.Faces.length:Int),S,least,toI G,fi,bs2,c2,n2,B)) else some (.inr (.inr (false,⟨prP d d.Faces.length,(d.Faces.length:Int),S,least,toI G,fi,bs2,c2,n2,B⟩))):=by
        unfold spec_l15Search_visit_l10
        simp only
        rw [if_pos (by omega),apdn (by rw [tl,List.length_singleton];omega),Option.bind_some,toI_app,hfit,Option.bind_some,if_pos rfl,p1]
        simp only [Option.bind_some]
        rw [hsl.1,Option.bind_some,hsl.2,w64_succ (by omega)]
       have s2:impl_shiftSearch_run_l11 SS ⟨(List.range d.Faces.length).map fun k=>nearP d k d.Faces.length,(List.range S.length).map fun y=>csP S y S.length,least,B - n,c0,bi0,fi⟩ (toI G) ((i:Int),(List.range d.Faces.length).map fun k=>nearP d k d.Faces.length,(List.range S.length).map fun y=>csP S y S.length,least,B - n',c,bi,fi)=if r=true then some (.inl (((i+1:Nat):Int),(List.range d.Faces.length).map fun k=>nearP d k d.Faces.length,(List.range S.length).map fun y=>csP S y S.length,least,B - n2,c2,bi2,fi)) else some (.inr (.inr (true,⟨(List.range d.Faces.length).map fun k=>nearP d k d.Faces.length,(List.range S.length).map fun y=>csP S y S.length,least,B - n2,c2,bi2,fi⟩))):=by
        unfold impl_shiftSearch_run_l11
        simp only
        rw [hcl,if_pos (by omega),hnr,Option.bind_some,hgood,Option.bind_some,if_pos rfl,apdn (by simp only [List.length_nil];omega),Option.bind_some,List.nil_append,apdn (by rw [tl,List.length_singleton];omega),Option.bind_some,toI_app]
        have:SS (⟨(List.range d.Faces.length).map fun k=>nearP d k d.Faces.length,(List.range S.length).map fun y=>csP S y S.length,least,B - n',c,bi,fi⟩,toI (G++[i]))=some (!r,⟨(List.range d.Faces.length).map fun k=>nearP d k d.Faces.length,(List.range S.length).map fun y=>csP S y S.length,least,B - n2,c2,bi2,fi⟩):=p2
        rw [this]
        simp only [Option.bind_some]
        rw [w64_succ (by omega)]
        cases r<;>rfl
       cases r with
       | true=>
        rw [if_pos rfl] at s1 s2
        obtain ⟨r,c',n'',bs',bi',q1,q2,q3,q4,q5,q6,q7,q8,q9,q10⟩:=ihk (i+1) bs2 bi2 c2 n2 (by omega) (by omega) (p5 rfl) (by omega) p7 p8 p9 p10
        exact ⟨r,c',n'',bs',bi',by rw [loopO_next s1];exact q1,by rw [loopO_next s2];exact q2,by omega,q4,q5,by omega,q7,q8,q9,q10⟩
       | false=>
        rw [if_neg (by decide)] at s1 s2
        exact ⟨false,c2,n2,bs2,bi2,loopO_done s1,loopO_done s2,by omega,p4,(fun h=>by cases h),p6,p7,p8,p9,p10⟩
    obtain ⟨r,c',n'',bs',bi',q1,q2,q3,q4,q5,q6,q7,q8,q9,q10⟩:=lp c bi S.length 0 bs bi c (n+1) (by omega) (by omega) (by omega) h2 (by omega) h5 h6 h7
    refine ⟨r,c',n'',bs',bi',?_,?_,by omega,q4,q5,q6,q7,q8,q9,q10⟩
    ·have q1:loopO (spec_l15Search_visit_l10 spec_l15Search_visit) (0,prP d d.Faces.length,(d.Faces.length:Int),S,least,toI G,fi,bs,c,n+1,B)=_:=q1
     rw [q1]
     cases r<;>rfl
    ·rw [show B - n - 1=B - (n+1) by omega]
     have q2:loopO (impl_shiftSearch_run_l11 SS ⟨(List.range d.Faces.length).map fun k=>nearP d k d.Faces.length,(List.range S.length).map fun y=>csP S y S.length,least,B - n,c,bi,fi⟩ (toI G)) (0,(List.range d.Faces.length).map fun k=>nearP d k d.Faces.length,(List.range S.length).map fun y=>csP S y S.length,least,B - (n+1),c,bi,fi)=_:=q2
     rw [q2]
     cases r<;>rfl
end
theorem sheets_eq (S:List S_Veneer) (hl:S.length≤1048576):∃v,spec_l15Sheets S=some v∧impl_validSheets S=some v∧(v=true→(∀x∈S,okV x)∧S.length≤8∧1≤S.length):=by
 unfold spec_l15Sheets impl_validSheets
 rw [all_loop (f:=spec_l15Sheets_l2 S) S venV hl (fun i hi=>by
  unfold spec_l15Sheets_l2
  rw [if_pos (by omega),rd_lt hi,Option.bind_some,ven_s,Option.bind_some]) (by unfold spec_l15Sheets_l2;rw [if_neg (by omega)])]
 rw [within_eq,vens_i S hl,Bool.decide_and]
 cases ha:S.all venV with
 | true=>
  refine ⟨decide (1≤(S.length:Int))&&decide ((S.length:Int)≤8),rfl,?_,fun h=>?_⟩
  ·cases decide (1≤(S.length:Int))<;>cases decide ((S.length:Int)≤8)<;>rfl
  ·simp only [Bool.and_eq_true,decide_eq_true_eq] at h
   exact ⟨fun x hx=>venV_ok (List.all_eq_true.1 ha x hx),by omega,by omega⟩
 | false=>
  refine ⟨false,rfl,?_,(fun h=>by cases h)⟩
  cases decide (1≤(S.length:Int))<;>cases decide ((S.length:Int)≤8)<;>rfl
theorem bR_of {d:S_Drawing} (hb:bd_S_Drawing d):bR d:=by
 obtain ⟨_,_,_,⟨hf,hF⟩⟩:=hb
 exact ⟨hf,fun f h=>(hF f h).2.1⟩
theorem shifts_eq {d:S_Drawing} (hb:bd_S_Drawing d) {S:List S_Veneer} (hl:S.length≤1048576) (least B:Int) (fi:Bool):
 ∃code,∃(x:Option S_l15Search) (y:Option S_shiftSearch),spec_l15Run d S least B fi=some (x,code)∧impl_searchShifts d S least B fi=some (y,code)∧
  ((code≠0)∨(code=0∧∃a b,x=some a∧y=some b∧a.count=b.found∧0≤a.count∧(a.count>0→a.best=b.first)∧(a.best.length:Int)≤20001)):=by
 obtain ⟨v,v1,v2⟩:=draw_ok d hb
 obtain ⟨u,u1,u2,u3⟩:=sheets_eq S hl
 unfold spec_l15Run impl_searchShifts
 rw [v1,v2,Option.bind_some,Option.bind_some]
 cases v with
 | false=>exact ⟨1,none,none,rfl,rfl,.inl (by decide)⟩
 | true=>
  rw [if_pos rfl,if_pos rfl,u1,u2,Option.bind_some,Option.bind_some]
  cases u with
  | false=>exact ⟨1,none,none,rfl,rfl,.inl (by decide)⟩
  | true=>
   obtain ⟨w1,w2,w3⟩:=u3 rfl
   simp only [Bool.not_true,Option.bind_some,Bool.false_eq_true,if_false,in_eq,within_eq]
   by_cases c:1≤B∧B≤20000
   ·rw [decide_eq_true c]
    by_cases c2:0≤least∧least≤200
    ·rw [decide_eq_true c2]
     simp only [if_true,Bool.not_true,Option.bind_some,Bool.false_eq_true,if_false]
     rw [pairs_s (bR_of hb),near_impl (bR_of hb),cs_i w1 w2 w3,Option.bind_some,Option.bind_some,Option.bind_some]
     obtain ⟨r,c',n',bs',bi',p1,p2,p3,p4,p5,p6,p7,p8,p9,p10⟩:=search_eq (bR_of hb) w1 w2 w3 least fi c.2 B.toNat [] [] [] 0 0 (by omega) (by omega) (by omega) (by omega) (by omega) (by simp) (by simp) (by simp) (fun _=>rfl) (by simp) (by simp)
     rw [Int.sub_zero] at p2
     have p1:spec_l15Search_visit ⟨prP d d.Faces.length,(d.Faces.length:Int),S,least,[],fi,[],0,0,B⟩=_:=p1
     have p2:impl_shiftSearch_run ⟨(List.range d.Faces.length).map fun k=>nearP d k d.Faces.length,(List.range S.length).map fun y=>csP S y S.length,least,B,0,[],fi⟩ []=_:=p2
     rw [p1,p2,Option.bind_some,Option.bind_some]
     by_cases cn:n'>B
     ·exact ⟨5,none,none,by simp only;rw [if_pos cn],by simp only;rw [if_pos (by omega)],.inl (by decide)⟩
     ·exact ⟨0,_,_,by simp only;rw [if_neg cn],by simp only;rw [if_neg (by omega)],.inr ⟨rfl,_,_,rfl,rfl,rfl,p6,p8,p9⟩⟩
    ·rw [decide_eq_false c2]
     exact ⟨2,none,none,rfl,rfl,.inl (by decide)⟩
   ·rw [decide_eq_false c]
    exact ⟨2,none,none,rfl,rfl,.inl (by decide)⟩
theorem mk_textL:∀(n:Nat) (k:Int) (out:ByteArray),k.toNat≤n→out.size+k.toNat≤4611686018427387904→∃r,loopO laws_markText_l4 (k,out)=some r∧r.size≤out.size+k.toNat:=by
 intro n
 induction n with
 | zero=>
  intro k out h1 h2
  refine ⟨out,loopO_done ?_,by omega⟩
  unfold laws_markText_l4
  simp only
  rw [if_neg (by omega)]
 | succ n ih=>
  intro k out h1 h2
  by_cases c:k>0
  ·have e1:w64 (k.tdiv 10)=k.tdiv 10:=by
    rw [Int.tdiv_eq_ediv_of_nonneg (by omega)]
    exact w64_id (by omega) (by omega)
   have e2:k.tdiv 10=k / 10:=Int.tdiv_eq_ediv_of_nonneg (by omega)
   have hs:∀x:Int,(strOf [x]).size=1:=fun x=>rfl
   obtain ⟨r,hr,hr2⟩:=ih (k / 10) (strOf [IntKind.wrap .u8 (w64 (48+k.tmod 10))]++out) (by omega) (by rw [ByteArray.size_append,hs];omega)
   refine ⟨r,?_,?_⟩
   ·rw [loopO_next (s':=(k / 10,strOf [IntKind.wrap .u8 (w64 (48+k.tmod 10))]++out)) ?_]
    ·exact hr
    ·unfold laws_markText_l4 md dv
     simp only
     rw [if_pos c,if_neg (by decide),Option.bind_some,cat_some (by rw [hs];omega),Option.bind_some,if_neg (by decide),Option.bind_some]
     have e3:IntKind.wrap .i64 (k.tdiv 10)=k / 10:=by rw [←e2];exact e1
     rw [e3]
   ·rw [ByteArray.size_append,hs] at hr2
    omega
  ·refine ⟨out,loopO_done ?_,by omega⟩
   unfold laws_markText_l4
   simp only
   rw [if_neg c]
theorem mk_text (k:Int) (h:k≤2305843009213693952):∃r,laws_markText k=some r:=by
 unfold laws_markText
 split
 ·exact ⟨_,rfl⟩
 ·obtain ⟨r,hr,hr2⟩:=mk_textL k.toNat k ⟨#[]⟩ (Nat.le_refl _) (by show 0+_≤_;omega)
  have h0:(⟨#[]⟩:ByteArray).size=0:=rfl
  have h1:(⟨#[109]⟩:ByteArray).size=1:=rfl
  rw [hr,Option.bind_some,cat_some (by rw [h1];omega),Option.bind_some]
  exact ⟨_,rfl⟩
theorem markW {α:Type} {f:Int×Int→Option ((Int×Int) ⊕ Int)} (l:List α) (c:Nat) (K:Int) (hl:l.length<4611686018427387904)
 (h1:∀(i:Nat) (hi:i<l.length) (k:Int),0≤k→k+c≤K→∃k',k≤k'∧k'≤k+c∧f (k,(i:Int))=some (.inl (k',w64 ((i:Int)+1))))
 (h2:∀k,f (k,(l.length:Int))=some (.inr k)) {k:Int} (h0:0≤k) (hk:k+((c*l.length:Nat):Int)≤K):∃r,loopO f (k,0)=some r∧k≤r∧r≤k+((c*l.length:Nat):Int):=by
 have key:∀(n i:Nat) (k:Int),i+n=l.length→0≤k→k+((c*n:Nat):Int)≤K→∃r,loopO f (k,(i:Int))=some r∧k≤r∧r≤k+((c*n:Nat):Int):=by
  intro n
  induction n with
  | zero=>
   intro i k hi h0 hk
   obtain rfl:i=l.length:=by omega
   exact ⟨k,loopO_done (h2 k),Int.le_refl _,by omega⟩
  | succ n ih=>
   intro i k hi h0 hk
   have e:((c* (n+1):Nat):Int)=((c*n:Nat):Int)+c:=by rw [Nat.mul_succ];omega
   have hp:(0:Int)≤((c*n:Nat):Int):=by omega
   obtain ⟨k',q1,q2,q3⟩:=h1 i (by omega) k h0 (by omega)
   obtain ⟨r,r1,r2,r3⟩:=ih (i+1) k' (by omega) (by omega) (by omega)
   rw [w64_succ (by omega)] at q3
   exact ⟨r,by rw [loopO_next q3];exact r1,by omega,by omega⟩
 simpa using key l.length 0 k (by omega) h0 hk
theorem mw_bd {d:S_Drawing} (h:bd_S_Drawing d):d.Points.length≤1048576∧d.Faces.length≤1048576∧∀x∈d.Faces,x.Ring.length≤1048576:=by
 obtain ⟨_,_,⟨p,_⟩,⟨f,g⟩⟩:=h
 exact ⟨p,f,fun x hx=>(g x hx).2.1⟩
theorem mw_points (l:List S_Point) (h:l.length≤1048576) {k:Int} (h0:0≤k) (hk:k≤1152921504606846976):∃r,laws_markPointS_ws l k=some r∧k≤r∧r≤k+2097152:=by
 unfold laws_markPointS_ws
 obtain ⟨r,r1,r2,r3⟩:=markW (f:=laws_markPointS_ws_l2 l) l 2 1152921504608944128 (by omega) (fun i hi k h0 hk=>⟨k+2,by omega,by omega,by
  unfold laws_markPointS_ws_l2
  simp only
  rw [if_pos (by omega),rd_lt hi,Option.bind_some,Option.bind_some,w64_id (n:=k+1) (by omega) (by omega),w64_id (n:=k+1+1) (by omega) (by omega)]
  congr 3
  omega⟩) (fun k=>by
  unfold laws_markPointS_ws_l2
  simp only
  rw [if_neg (by omega)]) h0 (by omega)
 exact ⟨r,by rw [r1];rfl,r2,by omega⟩
theorem mw_ints (l:List Int) (h:l.length≤1048576) {k:Int} (h0:0≤k) (hk:k≤2305843009213693952):∃r,laws_markInt64S_ws l k=some r∧k≤r∧r≤k+1048576:=by
 unfold laws_markInt64S_ws
 obtain ⟨r,r1,r2,r3⟩:=markW (f:=laws_markInt64S_ws_l2 l) l 1 2305843009214742528 (by omega) (fun i hi k h0 hk=>⟨k+1,by omega,by omega,by
  unfold laws_markInt64S_ws_l2
  simp only
  rw [if_pos (by omega),rd_lt hi,Option.bind_some,w64_id (n:=k+1) (by omega) (by omega)]⟩) (fun k=>by
  unfold laws_markInt64S_ws_l2
  simp only
  rw [if_neg (by omega)]) h0 (by omega)
 exact ⟨r,by rw [r1];rfl,r2,by omega⟩
theorem mw_faces (l:List S_Face) (h:l.length≤1048576) (hr:∀x∈l,x.Ring.length≤1048576) {k:Int} (h0:0≤k) (hk:k≤1152921504608944128):∃r,laws_markFaceS l k=some r∧k≤r∧r≤k+1099512676352:=by
 unfold laws_markFaceS
 obtain ⟨r,r1,r2,r3⟩:=markW (f:=laws_markFaceS_l2 l) l 1048577 1152922604121620480 (by omega) (fun i hi k h0 hk=>by
  obtain ⟨t,ht⟩:=mk_text k (by omega)
  obtain ⟨r,r1,r2,r3⟩:=mw_ints l[i].Ring (hr _ (List.getElem_mem hi)) (k:=k+1) (by omega) (by omega)
  refine ⟨r,by omega,by omega,?_⟩
  unfold laws_markFaceS_l2
  simp only
  rw [if_pos (by omega),ht,Option.bind_some,rd_lt hi,Option.bind_some,Option.bind_some,w64_id (n:=k+1) (by omega) (by omega),r1,Option.bind_some]) (fun k=>by
  unfold laws_markFaceS_l2
  simp only
  rw [if_neg (by omega)]) h0 (by omega)
 exact ⟨r,by rw [r1];rfl,r2,by omega⟩
theorem mw_drawing (d:S_Drawing) (hb:bd_S_Drawing d) {k:Int} (h0:0≤k) (hk:k≤1048576):∃r,laws_markDrawing d k=some r∧k≤r∧r≤k+1099514773504:=by
 obtain ⟨b1,b2⟩:=mw_bd hb
 unfold laws_markDrawing
 obtain ⟨r,r1,r2,r3⟩:=mw_points d.Points b1 h0 (by omega)
 obtain ⟨q,q1,q2,q3⟩:=mw_faces d.Faces b2.1 b2.2 (k:=r) (by omega) (by omega)
 exact ⟨q,by rw [r1,Option.bind_some,q1];rfl,by omega,by omega⟩
theorem mr_mark (l:List Int) (h:l.length≤1073741824):laws_markInt64S l 1=some (1+(l.length:Int),iota 1 l.length):=by
 unfold laws_markInt64S
 rw [markInt (f:=laws_markInt64S_l2) l (k:=1) (by omega) (by omega) ?_ ?_]
 ·rfl
 ·intro k i out hi
  unfold laws_markInt64S_l2
  simp only
  rw [if_pos (by omega),rd_lt hi]
  simp
 ·intro k out
  unfold laws_markInt64S_l2
  simp
theorem mr_held (n:Nat) (h:n≤1073741824):laws_heldInt64S (iota 1 n) 1=some (1+(n:Int)):=by
 unfold laws_heldInt64S
 rw [heldInt (f:=laws_heldInt64S_l2 (iota 1 n)) (n:=n) (k:=1) (by omega) (by omega) ?_ ?_]
 ·rfl
 ·intro i hi
  unfold laws_heldInt64S_l2
  simp only
  rw [if_pos (by rw [iota_length];omega),rd_nat,iota_get _ _ _ hi]
  simp
 ·unfold laws_heldInt64S_l2
  simp [iota_length]
theorem mr_eq (l:List Int) (h:l.length≤1073741824):laws_eqInt64S l l=some true:=by
 unfold laws_eqInt64S
 rw [if_neg (by simp),eqS_refl (n:=l.length) (by omega) (fun i hi=>?_) ?_]
 ·rfl
 ·unfold laws_eqInt64S_l4
  rw [if_neg (by omega)]
 ·unfold laws_eqInt64S_l4
  rw [if_pos (by omega),rd_lt hi,Option.bind_some,Option.bind_some]
  simp
theorem fh_markV (l:List S_Veneer) (h:l.length≤1048576) {k0:Int} (h0:0≤k0) (h1:k0≤1099514773505):∃k' out',laws_markVeneerS l k0=some (k',out')∧k0≤k':=by
 unfold laws_markVeneerS
 obtain ⟨k',out',q1,q2,q3⟩:=markL (f:=laws_markVeneerS_l2) (c:=3) 2199023255552 (fun k i out hi hk1 hk2=>by
  have w0:w64 (k+1)=k+1:=by rw [w64_id (by omega) (by omega)]
  have w1:w64 (k+1+1)=k+2:=by rw [w64_id (by omega) (by omega)];omega
  have w2:w64 (k+2+1)=k+3:=by rw [w64_id (by omega) (by omega)];omega
  obtain ⟨r0,hr0⟩:=mk_text k (by omega)
  have hget:∃o2,laws_markVeneerS_l2 (k,(i:Int),out)=some (.inl (k+3,w64 ((i:Int)+1),o2))∧o2.length=out.length:=by
   unfold laws_markVeneerS_l2
   simp only
   rw [if_pos (by omega)]
   simp only [rd_nat,Int.toNat_natCast,List.length_set,List.getElem?_set_self,List.getElem?_eq_getElem hi,hi,Option.bind_some,w0,w1,w2,hr0]
   exact ⟨_,rfl,by simp⟩
  obtain ⟨o2,g1,g2⟩:=hget
  exact ⟨k+3,o2,g2,by omega,by omega,g1⟩) (fun k out=>by
  unfold laws_markVeneerS_l2
  simp only
  rw [if_neg (by omega)]) l h0 (by omega) (by omega)
 rw [q1]
 exact ⟨k',out',rfl,q2⟩
theorem fh_same {d:S_Drawing} (hb:bd_S_Drawing d) {S:List S_Veneer} (hl:S.length≤1048576) (least B:Int):∃r c,spec_FirstShifts d S least B=some (r,c)∧impl_FirstShifts d S least B=some (r,c)∧r.length≤20001:=by
 obtain ⟨code,x,y,h1,h2,h3⟩:=shifts_eq hb hl least B true
 unfold spec_FirstShifts impl_FirstShifts
 simp only [h1,h2,Option.bind_some]
 rcases h3 with h | ⟨rfl,p,q,rfl,rfl,h4,h5,h6,h7⟩
 ·refine ⟨[],code,by rw [if_pos h],?_,by simp⟩
  rw [if_neg h,Option.bind_some,if_neg (by decide)]
  unfold impl_FirstShifts_k4
  rw [if_pos h]
 ·rw [if_neg (by simp),if_pos rfl]
  simp only [Option.bind_some]
  by_cases c:p.count=0
  ·refine ⟨[],3,by rw [if_pos c],?_,by simp⟩
   have e:(q.found==0)=true:=by rw [←h4,c];rfl
   rw [if_pos e]
   unfold impl_FirstShifts_k4
   rw [if_pos (by decide)]
  ·refine ⟨p.best,0,?_,?_,by omega⟩
   ·rw [if_neg c]
    unfold spec_l00Own
    rw [apdn (by simp;omega)]
    simp
   ·have e:¬(q.found==0)=true:=by rw [←h4];simpa using c
    rw [if_neg e]
    unfold impl_FirstShifts_k4
    rw [if_neg (by simp)]
    simp only
    rw [h6 (by omega)]
theorem law_FirstShifts (a:S_Drawing) (S:List S_Veneer) (least B:Int) (wa:wf_S_Drawing a) (wS:(∀x∈S,wf_S_Veneer x)∧S.length≤maxLen):laws_FnExactFirstShifts a S least B=some true:=by
 unfold laws_FnExactFirstShifts
 obtain ⟨v,v1,v2,v3⟩:=fh_szDrawing a wa (left:=1048576) (by omega) (by omega)
 rw [v1,Option.bind_some]
 by_cases c1:v<0
 ·rw [if_pos c1]
 rw [if_neg c1]
 have ha:=v3.resolve_left c1
 obtain ⟨v',w1,w2,w3⟩:=fh_szVeneerS S wS (left:=v) (by omega) (by omega)
 rw [w1,Option.bind_some]
 by_cases c2:v'<0
 ·rw [if_pos c2]
 rw [if_neg c2]
 have hS:=w3.resolve_left c2
 obtain ⟨r,c,h1,h2,h3⟩:=fh_same ha hS.1 least B
 obtain ⟨k,k1,k2,k3⟩:=mw_drawing a ha (k:=1) (by omega) (by omega)
 obtain ⟨k',out',m1,m2⟩:=fh_markV S hS.1 (k0:=k) (by omega) (by omega)
 rw [fh_toDrawing a ha,fh_toVeneerS S hS]
 simp only [Option.bind_some,h1,h2,mr_eq r (by omega),fh_eqDrawing a ha,fh_eqVeneerS S hS,k1,m1,mr_mark r (by omega),mr_held r.length (by omega),not_true,ne_eq,or_self,if_false,if_true]
 rw [if_neg (show ¬k'<0 by omega)]
 simp
 rw [if_neg (by omega),if_neg (by omega)]
end Go.Pw
