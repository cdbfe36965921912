/- The plain law of FnExactSameDesk. Conditions: none. -/
import Derived.Test.YtambonpepalofaaTsdT
import Derived.Test.YtambonpepalofaaSimPe
import Derived.Test.YtambonpepalofaaSimRh
namespace Go.Pw
open Go.Sim (min2 max2)
set_option linter.unusedVariables false
set_option linter.unusedSimpArgs false
theorem maxLen_eq:maxLen=9223372036854775807:=rfl
theorem sd_szN {α:Type} {f:Int×Int→Option ((Int×Int) ⊕ (Int ⊕ Int))} (l:List α) (B:α→Prop) (hl:l.length<4611686018427387904)
 (h1:∀(i:Nat) (hi:i<l.length) (u:Int),0≤u→u≤1048576→∃v,v≤u∧(v<0∨B l[i])∧f (u,(i:Int))=if v<0 then some (.inr (.inr (-1))) else some (.inl (v,w64 ((i:Int)+1))))
 (h2:∀u,f (u,(l.length:Int))=some (.inr (.inl u))) {left:Int} (h3:0≤left) (h4:left≤1048576):
 Ev (loopO f (left,0)) (fun r=>r= .inr (-1)∨∃v,r= .inl v∧0≤v∧v≤left∧∀x∈l,B x):=by
 refine Ev.loop (fun s=>∃i:Nat,s.2=(i:Int)∧i≤l.length∧0≤s.1∧s.1≤left∧∀x∈l.take i,B x) (fun s=>((l.length:Int) - s.2).toNat) ?_ ⟨0,rfl,Nat.zero_le _,h3,Int.le_refl _,fun x hx=>(by simp at hx)⟩
 rintro ⟨u,i⟩ ⟨j,rfl,j1,j2,j3,j4⟩
 simp only at j2 j3
 by_cases c:j<l.length
 ·obtain ⟨v,v1,v2,v3⟩:=h1 j c u j2 (by omega)
  rw [v3]
  refine Ev.ite (fun _=>Ev.ret (.inl rfl)) fun hv=>?_
  rw [w64_succ (by omega)]
  refine Ev.ret ⟨⟨j+1,rfl,by omega,by simp only;omega,by simp only;omega,fun x hx=>?_⟩,by simp only;omega⟩
  rw [List.take_succ_eq_append_getElem c] at hx
  rcases List.mem_append.1 hx with hx | hx
  ·exact j4 x hx
  ·rw [List.mem_singleton] at hx
   subst hx
   exact v2.resolve_left hv
 ·obtain rfl:j=l.length:=by omega
  rw [h2]
  exact Ev.ret (.inr ⟨u,rfl,j2,j3,by rwa [List.take_length] at j4⟩)
def wf_S_Point (x:S_Point):Prop:=(Lit.int .i64 x.X).wf=true∧(Lit.int .i64 x.Y).wf=true
def bd_S_Point (x:S_Point):Prop:=True∧True
theorem sd_toPoint (x:S_Point) (h:bd_S_Point x):laws_toPoint x=some x:=by
 unfold laws_toPoint
 rfl
theorem sd_eqPoint (x:S_Point) (h:bd_S_Point x):laws_eqPoint x x=some true:=by
 unfold laws_eqPoint
 simp []
theorem sd_szPointS (l:(List S_Point)) (h:((∀a∈l,wf_S_Point a)∧l.length≤maxLen)) {left:Int} (h0:0≤left) (h1:left≤1048576):Ev (laws_szPointS l left) (fun v=>v≤left∧(v<0∨(l.length≤1048576∧∀a∈l,bd_S_Point a))):=by
 obtain ⟨hw,hl⟩:=h
 rw [maxLen_eq] at hl
 unfold laws_szPointS
 rw [w64_id (n:=left - (l.length:Int)) (by omega) (by omega)]
 refine Ev.ite (fun _=>Ev.ret ⟨by omega,.inl (by omega)⟩) fun c=>?_
 exact Ev.ret ⟨by omega,.inr ⟨by omega,fun a _=>⟨trivial,trivial⟩⟩⟩
theorem sd_toPointS (l:(List S_Point)) (h:(l.length≤1048576∧∀a∈l,bd_S_Point a)):laws_toPointS l=some l:=by
 have hl:=h.1
 unfold laws_toPointS mkl
 rw [if_pos (by constructor<;>omega),Option.bind_some]
 rw [copyS (f:=laws_toPointS_l3 l) l _ (by simp) (by omega) ?_ ?_]
 ·rfl
 ·intro i hi out ho
  unfold laws_toPointS_l3
  simp only
  rw [if_pos (by omega),rd_lt hi,Option.bind_some,sd_toPoint l[i] (h.2 _ (List.getElem_mem hi)),Option.bind_some,rd_lt (by omega:i<out.length),Option.bind_some]
  simp
 ·intro out
  unfold laws_toPointS_l3
  simp
theorem sd_eqPointS (l:(List S_Point)) (h:(l.length≤1048576∧∀a∈l,bd_S_Point a)):laws_eqPointS l l=some true:=by
 have hl:=h.1
 unfold laws_eqPointS
 rw [if_neg (by simp),eqS_refl (n:=l.length) (by omega) ?_ ?_]
 ·rfl
 ·intro i hi
  unfold laws_eqPointS_l4
  rw [if_pos (by omega),rd_lt hi]
  simp only [Option.bind_some]
  rw [sd_eqPoint l[i] (h.2 _ (List.getElem_mem hi))]
  rfl
 ·unfold laws_eqPointS_l4
  rw [if_neg (by omega)]
theorem sd_szInt64S (l:(List Int)) (h:((∀a∈l,(Lit.int .i64 a).wf=true)∧l.length≤maxLen)) {left:Int} (h0:0≤left) (h1:left≤1048576):Ev (laws_szInt64S l left) (fun v=>v≤left∧(v<0∨(l.length≤1048576∧∀a∈l,True))):=by
 obtain ⟨hw,hl⟩:=h
 rw [maxLen_eq] at hl
 unfold laws_szInt64S
 rw [w64_id (n:=left - (l.length:Int)) (by omega) (by omega)]
 refine Ev.ite (fun _=>Ev.ret ⟨by omega,.inl (by omega)⟩) fun c=>?_
 exact Ev.ret ⟨by omega,.inr ⟨by omega,fun a _=>trivial⟩⟩
theorem sd_toInt64S (l:(List Int)) (h:(l.length≤1048576∧∀a∈l,True)):laws_toInt64S l=some l:=by
 have hl:=h.1
 unfold laws_toInt64S mkl
 rw [if_pos (by constructor<;>omega),Option.bind_some]
 rw [copyS (f:=laws_toInt64S_l3 l) l _ (by simp) (by omega) ?_ ?_]
 ·rfl
 ·intro i hi out ho
  unfold laws_toInt64S_l3
  simp only
  rw [if_pos (by omega),rd_lt hi,Option.bind_some,rd_lt (by omega:i<out.length),Option.bind_some]
  simp
 ·intro out
  unfold laws_toInt64S_l3
  simp
theorem sd_eqInt64S (l:(List Int)) (h:(l.length≤1048576∧∀a∈l,True)):laws_eqInt64S l l=some true:=by
 have hl:=h.1
 unfold laws_eqInt64S
 rw [if_neg (by simp),eqS_refl (n:=l.length) (by omega) ?_ ?_]
 ·rfl
 ·intro i hi
  unfold laws_eqInt64S_l4
  rw [if_pos (by omega),rd_lt hi]
  simp only [Option.bind_some]
  simp
 ·unfold laws_eqInt64S_l4
  rw [if_neg (by omega)]
def wf_S_Face (x:S_Face):Prop:=x.Name.size≤maxLen∧((∀a∈x.Ring,(Lit.int .i64 a).wf=true)∧x.Ring.length≤maxLen)
def bd_S_Face (x:S_Face):Prop:=x.Name.size≤1048576∧(x.Ring.length≤1048576∧∀a∈x.Ring,True)
theorem sd_szFace (x:S_Face) (h:wf_S_Face x) {left:Int} (h0:0≤left) (h1:left≤1048576):Ev (laws_szFace x left) (fun v=>v≤left∧(v<0∨bd_S_Face x)):=by
 obtain ⟨w0,w1⟩:=h
 unfold laws_szFace
 rw [maxLen_eq] at w0
 rw [w64_id (n:=left - (x.Name.size:Int)) (by omega) (by omega)]
 refine Ev.ite (fun _=>Ev.ret ⟨by omega,.inl (by omega)⟩) fun c0=>?_
 refine Ev.bind (sd_szInt64S x.Ring w1 (left:=left - (x.Name.size:Int)) (by omega) (by omega)) fun v1 q1=>?_
 refine Ev.ite (fun _=>Ev.ret ⟨by omega,.inl (by omega)⟩) fun c1=>?_
 exact Ev.ret ⟨by omega,.inr ⟨by omega,q1.2.resolve_left c1⟩⟩
theorem sd_toFace (x:S_Face) (h:bd_S_Face x):laws_toFace x=some x:=by
 unfold laws_toFace
 rw [sd_toInt64S x.Ring h.2,Option.bind_some]
theorem sd_eqFace (x:S_Face) (h:bd_S_Face x):laws_eqFace x x=some true:=by
 unfold laws_eqFace
 simp [sd_eqInt64S x.Ring (h.2)]
theorem sd_szFaceS (l:(List S_Face)) (h:((∀a∈l,wf_S_Face a)∧l.length≤maxLen)) {left:Int} (h0:0≤left) (h1:left≤1048576):Ev (laws_szFaceS l left) (fun v=>v≤left∧(v<0∨(l.length≤1048576∧∀a∈l,bd_S_Face a))):=by
 obtain ⟨hw,hl⟩:=h
 rw [maxLen_eq] at hl
 unfold laws_szFaceS
 rw [w64_id (n:=left - (l.length:Int)) (by omega) (by omega)]
 refine Ev.ite (fun _=>Ev.ret ⟨by omega,.inl (by omega)⟩) fun c=>?_
 refine Ev.bind (sd_szN (f:=laws_szFaceS_l5 l) l (fun a=>bd_S_Face a) (by omega) (fun i hi u hu1 hu2=>?_) (fun u=>?_) (left:=left - (l.length:Int)) (by omega) (by omega)) fun r hr=>?_
 ·
  obtain ⟨v,v1,v2,v3⟩:=sd_szFace l[i] (hw _ (List.getElem_mem hi)) hu1 hu2
  refine ⟨v,v2,v3,?_⟩
  unfold laws_szFaceS_l5
  simp only
  rw [if_pos (by omega),rd_lt hi,Option.bind_some,v1,Option.bind_some]
 ·unfold laws_szFaceS_l5
  simp only
  rw [if_neg (by omega)]
 ·rcases hr with rfl | ⟨v,rfl,g1,g2,g3⟩
  ·exact Ev.ret ⟨by omega,.inl (by omega)⟩
  ·exact Ev.ret ⟨by omega,.inr ⟨by omega,g3⟩⟩
theorem sd_toFaceS (l:(List S_Face)) (h:(l.length≤1048576∧∀a∈l,bd_S_Face a)):laws_toFaceS l=some l:=by
 have hl:=h.1
 unfold laws_toFaceS mkl
 rw [if_pos (by constructor<;>omega),Option.bind_some]
 rw [copyS (f:=laws_toFaceS_l3 l) l _ (by simp) (by omega) ?_ ?_]
 ·rfl
 ·intro i hi out ho
  unfold laws_toFaceS_l3
  simp only
  rw [if_pos (by omega),rd_lt hi,Option.bind_some,sd_toFace l[i] (h.2 _ (List.getElem_mem hi)),Option.bind_some,rd_lt (by omega:i<out.length),Option.bind_some]
  simp
 ·intro out
  unfold laws_toFaceS_l3
  simp
theorem sd_eqFaceS (l:(List S_Face)) (h:(l.length≤1048576∧∀a∈l,bd_S_Face a)):laws_eqFaceS l l=some true:=by
 have hl:=h.1
 unfold laws_eqFaceS
 rw [if_neg (by simp),eqS_refl (n:=l.length) (by omega) ?_ ?_]
 ·rfl
 ·intro i hi
  unfold laws_eqFaceS_l4
  rw [if_pos (by omega),rd_lt hi]
  simp only [Option.bind_some]
  rw [sd_eqFace l[i] (h.2 _ (List.getElem_mem hi))]
  rfl
 ·unfold laws_eqFaceS_l4
  rw [if_neg (by omega)]
def wf_S_Drawing (x:S_Drawing):Prop:=(Lit.int .i64 x.Width).wf=true∧(Lit.int .i64 x.Height).wf=true∧((∀a∈x.Points,wf_S_Point a)∧x.Points.length≤maxLen)∧((∀a∈x.Faces,wf_S_Face a)∧x.Faces.length≤maxLen)
def bd_S_Drawing (x:S_Drawing):Prop:=True∧True∧(x.Points.length≤1048576∧∀a∈x.Points,bd_S_Point a)∧(x.Faces.length≤1048576∧∀a∈x.Faces,bd_S_Face a)
theorem sd_szDrawing (x:S_Drawing) (h:wf_S_Drawing x) {left:Int} (h0:0≤left) (h1:left≤1048576):Ev (laws_szDrawing x left) (fun v=>v≤left∧(v<0∨bd_S_Drawing x)):=by
 obtain ⟨w0,w1,w2,w3⟩:=h
 unfold laws_szDrawing
 refine Ev.bind (sd_szPointS x.Points w2 (left:=left) (by omega) (by omega)) fun v2 q2=>?_
 refine Ev.ite (fun _=>Ev.ret ⟨by omega,.inl (by omega)⟩) fun c2=>?_
 refine Ev.bind (sd_szFaceS x.Faces w3 (left:=v2) (by omega) (by omega)) fun v3 q3=>?_
 refine Ev.ite (fun _=>Ev.ret ⟨by omega,.inl (by omega)⟩) fun c3=>?_
 exact Ev.ret ⟨by omega,.inr ⟨trivial,trivial,q2.2.resolve_left c2,q3.2.resolve_left c3⟩⟩
theorem sd_toDrawing (x:S_Drawing) (h:bd_S_Drawing x):laws_toDrawing x=some x:=by
 unfold laws_toDrawing
 rw [sd_toPointS x.Points h.2.2.1,Option.bind_some,sd_toFaceS x.Faces h.2.2.2,Option.bind_some]
theorem sd_eqDrawing (x:S_Drawing) (h:bd_S_Drawing x):laws_eqDrawing x x=some true:=by
 unfold laws_eqDrawing
 simp [sd_eqPointS x.Points (h.2.2.1),sd_eqFaceS x.Faces (h.2.2.2)]
def wf_S_Veneer (x:S_Veneer):Prop:=x.Species.size≤maxLen∧(Lit.int .i64 x.Shade).wf=true∧(Lit.int .i64 x.Grain).wf=true
def bd_S_Veneer (x:S_Veneer):Prop:=x.Species.size≤1048576∧True∧True
theorem sd_szVeneer (x:S_Veneer) (h:wf_S_Veneer x) {left:Int} (h0:0≤left) (h1:left≤1048576):Ev (laws_szVeneer x left) (fun v=>v≤left∧(v<0∨bd_S_Veneer x)):=by
 obtain ⟨w0,w1,w2⟩:=h
 unfold laws_szVeneer
 rw [maxLen_eq] at w0
 rw [w64_id (n:=left - (x.Species.size:Int)) (by omega) (by omega)]
 refine Ev.ite (fun _=>Ev.ret ⟨by omega,.inl (by omega)⟩) fun c0=>?_
 exact Ev.ret ⟨by omega,.inr ⟨by omega,trivial,trivial⟩⟩
theorem sd_toVeneer (x:S_Veneer) (h:bd_S_Veneer x):laws_toVeneer x=some x:=by
 unfold laws_toVeneer
 rfl
theorem sd_eqVeneer (x:S_Veneer) (h:bd_S_Veneer x):laws_eqVeneer x x=some true:=by
 unfold laws_eqVeneer
 simp []
theorem sd_szVeneerS (l:(List S_Veneer)) (h:((∀a∈l,wf_S_Veneer a)∧l.length≤maxLen)) {left:Int} (h0:0≤left) (h1:left≤1048576):Ev (laws_szVeneerS l left) (fun v=>v≤left∧(v<0∨(l.length≤1048576∧∀a∈l,bd_S_Veneer a))):=by
 obtain ⟨hw,hl⟩:=h
 rw [maxLen_eq] at hl
 unfold laws_szVeneerS
 rw [w64_id (n:=left - (l.length:Int)) (by omega) (by omega)]
 refine Ev.ite (fun _=>Ev.ret ⟨by omega,.inl (by omega)⟩) fun c=>?_
 refine Ev.bind (sd_szN (f:=laws_szVeneerS_l5 l) l (fun a=>bd_S_Veneer a) (by omega) (fun i hi u hu1 hu2=>?_) (fun u=>?_) (left:=left - (l.length:Int)) (by omega) (by omega)) fun r hr=>?_
 ·
  obtain ⟨v,v1,v2,v3⟩:=sd_szVeneer l[i] (hw _ (List.getElem_mem hi)) hu1 hu2
  refine ⟨v,v2,v3,?_⟩
  unfold laws_szVeneerS_l5
  simp only
  rw [if_pos (by omega),rd_lt hi,Option.bind_some,v1,Option.bind_some]
 ·unfold laws_szVeneerS_l5
  simp only
  rw [if_neg (by omega)]
 ·rcases hr with rfl | ⟨v,rfl,g1,g2,g3⟩
  ·exact Ev.ret ⟨by omega,.inl (by omega)⟩
  ·exact Ev.ret ⟨by omega,.inr ⟨by omega,g3⟩⟩
theorem sd_toVeneerS (l:(List S_Veneer)) (h:(l.length≤1048576∧∀a∈l,bd_S_Veneer a)):laws_toVeneerS l=some l:=by
 have hl:=h.1
 unfold laws_toVeneerS mkl
 rw [if_pos (by constructor<;>omega),Option.bind_some]
 rw [copyS (f:=laws_toVeneerS_l3 l) l _ (by simp) (by omega) ?_ ?_]
 ·rfl
 ·intro i hi out ho
  unfold laws_toVeneerS_l3
  simp only
  rw [if_pos (by omega),rd_lt hi,Option.bind_some,sd_toVeneer l[i] (h.2 _ (List.getElem_mem hi)),Option.bind_some,rd_lt (by omega:i<out.length),Option.bind_some]
  simp
 ·intro out
  unfold laws_toVeneerS_l3
  simp
theorem sd_eqVeneerS (l:(List S_Veneer)) (h:(l.length≤1048576∧∀a∈l,bd_S_Veneer a)):laws_eqVeneerS l l=some true:=by
 have hl:=h.1
 unfold laws_eqVeneerS
 rw [if_neg (by simp),eqS_refl (n:=l.length) (by omega) ?_ ?_]
 ·rfl
 ·intro i hi
  unfold laws_eqVeneerS_l4
  rw [if_pos (by omega),rd_lt hi]
  simp only [Option.bind_some]
  rw [sd_eqVeneer l[i] (h.2 _ (List.getElem_mem hi))]
  rfl
 ·unfold laws_eqVeneerS_l4
  rw [if_neg (by omega)]
def wf_S_Picture (x:S_Picture):Prop:=wf_S_Drawing x.Drawing∧((∀a∈x.Veneers,wf_S_Veneer a)∧x.Veneers.length≤maxLen)
def bd_S_Picture (x:S_Picture):Prop:=bd_S_Drawing x.Drawing∧(x.Veneers.length≤1048576∧∀a∈x.Veneers,bd_S_Veneer a)
theorem sd_szPicture (x:S_Picture) (h:wf_S_Picture x) {left:Int} (h0:0≤left) (h1:left≤1048576):Ev (laws_szPicture x left) (fun v=>v≤left∧(v<0∨bd_S_Picture x)):=by
 obtain ⟨w0,w1⟩:=h
 unfold laws_szPicture
 refine Ev.bind (sd_szDrawing x.Drawing w0 (left:=left) (by omega) (by omega)) fun v0 q0=>?_
 refine Ev.ite (fun _=>Ev.ret ⟨by omega,.inl (by omega)⟩) fun c0=>?_
 refine Ev.bind (sd_szVeneerS x.Veneers w1 (left:=v0) (by omega) (by omega)) fun v1 q1=>?_
 refine Ev.ite (fun _=>Ev.ret ⟨by omega,.inl (by omega)⟩) fun c1=>?_
 exact Ev.ret ⟨by omega,.inr ⟨q0.2.resolve_left c0,q1.2.resolve_left c1⟩⟩
theorem sd_toPicture (x:S_Picture) (h:bd_S_Picture x):laws_toPicture x=some x:=by
 unfold laws_toPicture
 rw [sd_toDrawing x.Drawing h.1,Option.bind_some,sd_toVeneerS x.Veneers h.2,Option.bind_some]
theorem sd_eqPicture (x:S_Picture) (h:bd_S_Picture x):laws_eqPicture x x=some true:=by
 unfold laws_eqPicture
 simp [sd_eqDrawing x.Drawing (h.1),sd_eqVeneerS x.Veneers (h.2)]
def wf_S_Box (x:S_Box):Prop:=(Lit.int .i64 x.X).wf=true∧(Lit.int .i64 x.Y).wf=true∧(Lit.int .i64 x.Width).wf=true∧(Lit.int .i64 x.Length).wf=true
def bd_S_Box (x:S_Box):Prop:=True∧True∧True∧True
theorem sd_toBox (x:S_Box) (h:bd_S_Box x):laws_toBox x=some x:=by
 unfold laws_toBox
 rfl
theorem sd_eqBox (x:S_Box) (h:bd_S_Box x):laws_eqBox x x=some true:=by
 unfold laws_eqBox
 simp []
theorem sd_szBoxS (l:(List S_Box)) (h:((∀a∈l,wf_S_Box a)∧l.length≤maxLen)) {left:Int} (h0:0≤left) (h1:left≤1048576):Ev (laws_szBoxS l left) (fun v=>v≤left∧(v<0∨(l.length≤1048576∧∀a∈l,bd_S_Box a))):=by
 obtain ⟨hw,hl⟩:=h
 rw [maxLen_eq] at hl
 unfold laws_szBoxS
 rw [w64_id (n:=left - (l.length:Int)) (by omega) (by omega)]
 refine Ev.ite (fun _=>Ev.ret ⟨by omega,.inl (by omega)⟩) fun c=>?_
 exact Ev.ret ⟨by omega,.inr ⟨by omega,fun a _=>⟨trivial,trivial,trivial,trivial⟩⟩⟩
theorem sd_toBoxS (l:(List S_Box)) (h:(l.length≤1048576∧∀a∈l,bd_S_Box a)):laws_toBoxS l=some l:=by
 have hl:=h.1
 unfold laws_toBoxS mkl
 rw [if_pos (by constructor<;>omega),Option.bind_some]
 rw [copyS (f:=laws_toBoxS_l3 l) l _ (by simp) (by omega) ?_ ?_]
 ·rfl
 ·intro i hi out ho
  unfold laws_toBoxS_l3
  simp only
  rw [if_pos (by omega),rd_lt hi,Option.bind_some,sd_toBox l[i] (h.2 _ (List.getElem_mem hi)),Option.bind_some,rd_lt (by omega:i<out.length),Option.bind_some]
  simp
 ·intro out
  unfold laws_toBoxS_l3
  simp
theorem sd_eqBoxS (l:(List S_Box)) (h:(l.length≤1048576∧∀a∈l,bd_S_Box a)):laws_eqBoxS l l=some true:=by
 have hl:=h.1
 unfold laws_eqBoxS
 rw [if_neg (by simp),eqS_refl (n:=l.length) (by omega) ?_ ?_]
 ·rfl
 ·intro i hi
  unfold laws_eqBoxS_l4
  rw [if_pos (by omega),rd_lt hi]
  simp only [Option.bind_some]
  rw [sd_eqBox l[i] (h.2 _ (List.getElem_mem hi))]
  rfl
 ·unfold laws_eqBoxS_l4
  rw [if_neg (by omega)]
def wf_S_Leaf (x:S_Leaf):Prop:=x.Id.size≤maxLen∧x.Flitch.size≤maxLen∧(Lit.int .i64 x.Number).wf=true∧wf_S_Veneer x.Veneer∧(Lit.int .i64 x.Width).wf=true∧(Lit.int .i64 x.Length).wf=true∧((∀a∈x.Defects,wf_S_Box a)∧x.Defects.length≤maxLen)
def bd_S_Leaf (x:S_Leaf):Prop:=x.Id.size≤1048576∧x.Flitch.size≤1048576∧True∧bd_S_Veneer x.Veneer∧True∧True∧(x.Defects.length≤1048576∧∀a∈x.Defects,bd_S_Box a)
theorem sd_szLeaf (x:S_Leaf) (h:wf_S_Leaf x) {left:Int} (h0:0≤left) (h1:left≤1048576):Ev (laws_szLeaf x left) (fun v=>v≤left∧(v<0∨bd_S_Leaf x)):=by
 obtain ⟨w0,w1,w2,w3,w4,w5,w6⟩:=h
 unfold laws_szLeaf
 rw [maxLen_eq] at w0
 rw [w64_id (n:=left - (x.Id.size:Int)) (by omega) (by omega)]
 refine Ev.ite (fun _=>Ev.ret ⟨by omega,.inl (by omega)⟩) fun c0=>?_
 rw [maxLen_eq] at w1
 rw [w64_id (n:=left - (x.Id.size:Int) - (x.Flitch.size:Int)) (by omega) (by omega)]
 refine Ev.ite (fun _=>Ev.ret ⟨by omega,.inl (by omega)⟩) fun c1=>?_
 refine Ev.bind (sd_szVeneer x.Veneer w3 (left:=left - (x.Id.size:Int) - (x.Flitch.size:Int)) (by omega) (by omega)) fun v3 q3=>?_
 refine Ev.ite (fun _=>Ev.ret ⟨by omega,.inl (by omega)⟩) fun c3=>?_
 refine Ev.bind (sd_szBoxS x.Defects w6 (left:=v3) (by omega) (by omega)) fun v6 q6=>?_
 refine Ev.ite (fun _=>Ev.ret ⟨by omega,.inl (by omega)⟩) fun c6=>?_
 exact Ev.ret ⟨by omega,.inr ⟨by omega,by omega,trivial,q3.2.resolve_left c3,trivial,trivial,q6.2.resolve_left c6⟩⟩
theorem sd_toLeaf (x:S_Leaf) (h:bd_S_Leaf x):laws_toLeaf x=some x:=by
 unfold laws_toLeaf
 rw [sd_toVeneer x.Veneer h.2.2.2.1,Option.bind_some,sd_toBoxS x.Defects h.2.2.2.2.2.2,Option.bind_some]
theorem sd_eqLeaf (x:S_Leaf) (h:bd_S_Leaf x):laws_eqLeaf x x=some true:=by
 unfold laws_eqLeaf
 simp [sd_eqVeneer x.Veneer (h.2.2.2.1),sd_eqBoxS x.Defects (h.2.2.2.2.2.2)]
theorem sd_szLeafS (l:(List S_Leaf)) (h:((∀a∈l,wf_S_Leaf a)∧l.length≤maxLen)) {left:Int} (h0:0≤left) (h1:left≤1048576):Ev (laws_szLeafS l left) (fun v=>v≤left∧(v<0∨(l.length≤1048576∧∀a∈l,bd_S_Leaf a))):=by
 obtain ⟨hw,hl⟩:=h
 rw [maxLen_eq] at hl
 unfold laws_szLeafS
 rw [w64_id (n:=left - (l.length:Int)) (by omega) (by omega)]
 refine Ev.ite (fun _=>Ev.ret ⟨by omega,.inl (by omega)⟩) fun c=>?_
 refine Ev.bind (sd_szN (f:=laws_szLeafS_l5 l) l (fun a=>bd_S_Leaf a) (by omega) (fun i hi u hu1 hu2=>?_) (fun u=>?_) (left:=left - (l.length:Int)) (by omega) (by omega)) fun r hr=>?_
 ·
  obtain ⟨v,v1,v2,v3⟩:=sd_szLeaf l[i] (hw _ (List.getElem_mem hi)) hu1 hu2
  refine ⟨v,v2,v3,?_⟩
  unfold laws_szLeafS_l5
  simp only
  rw [if_pos (by omega),rd_lt hi,Option.bind_some,v1,Option.bind_some]
 ·unfold laws_szLeafS_l5
  simp only
  rw [if_neg (by omega)]
 ·rcases hr with rfl | ⟨v,rfl,g1,g2,g3⟩
  ·exact Ev.ret ⟨by omega,.inl (by omega)⟩
  ·exact Ev.ret ⟨by omega,.inr ⟨by omega,g3⟩⟩
theorem sd_toLeafS (l:(List S_Leaf)) (h:(l.length≤1048576∧∀a∈l,bd_S_Leaf a)):laws_toLeafS l=some l:=by
 have hl:=h.1
 unfold laws_toLeafS mkl
 rw [if_pos (by constructor<;>omega),Option.bind_some]
 rw [copyS (f:=laws_toLeafS_l3 l) l _ (by simp) (by omega) ?_ ?_]
 ·rfl
 ·intro i hi out ho
  unfold laws_toLeafS_l3
  simp only
  rw [if_pos (by omega),rd_lt hi,Option.bind_some,sd_toLeaf l[i] (h.2 _ (List.getElem_mem hi)),Option.bind_some,rd_lt (by omega:i<out.length),Option.bind_some]
  simp
 ·intro out
  unfold laws_toLeafS_l3
  simp
theorem sd_eqLeafS (l:(List S_Leaf)) (h:(l.length≤1048576∧∀a∈l,bd_S_Leaf a)):laws_eqLeafS l l=some true:=by
 have hl:=h.1
 unfold laws_eqLeafS
 rw [if_neg (by simp),eqS_refl (n:=l.length) (by omega) ?_ ?_]
 ·rfl
 ·intro i hi
  unfold laws_eqLeafS_l4
  rw [if_pos (by omega),rd_lt hi]
  simp only [Option.bind_some]
  rw [sd_eqLeaf l[i] (h.2 _ (List.getElem_mem hi))]
  rfl
 ·unfold laws_eqLeafS_l4
  rw [if_neg (by omega)]
def wf_S_Placement (x:S_Placement):Prop:=(Lit.int .i64 x.Face).wf=true∧(Lit.int .i64 x.Leaf).wf=true∧(Lit.int .i64 x.X).wf=true∧(Lit.int .i64 x.Y).wf=true∧(Lit.int .i64 x.Turn).wf=true
def bd_S_Placement (x:S_Placement):Prop:=True∧True∧True∧True∧True
theorem sd_toPlacement (x:S_Placement) (h:bd_S_Placement x):laws_toPlacement x=some x:=by
 unfold laws_toPlacement
 rfl
theorem sd_eqPlacement (x:S_Placement) (h:bd_S_Placement x):laws_eqPlacement x x=some true:=by
 unfold laws_eqPlacement
 simp []
theorem sd_szPlacementS (l:(List S_Placement)) (h:((∀a∈l,wf_S_Placement a)∧l.length≤maxLen)) {left:Int} (h0:0≤left) (h1:left≤1048576):Ev (laws_szPlacementS l left) (fun v=>v≤left∧(v<0∨(l.length≤1048576∧∀a∈l,bd_S_Placement a))):=by
 obtain ⟨hw,hl⟩:=h
 rw [maxLen_eq] at hl
 unfold laws_szPlacementS
 rw [w64_id (n:=left - (l.length:Int)) (by omega) (by omega)]
 refine Ev.ite (fun _=>Ev.ret ⟨by omega,.inl (by omega)⟩) fun c=>?_
 exact Ev.ret ⟨by omega,.inr ⟨by omega,fun a _=>⟨trivial,trivial,trivial,trivial,trivial⟩⟩⟩
theorem sd_toPlacementS (l:(List S_Placement)) (h:(l.length≤1048576∧∀a∈l,bd_S_Placement a)):laws_toPlacementS l=some l:=by
 have hl:=h.1
 unfold laws_toPlacementS mkl
 rw [if_pos (by constructor<;>omega),Option.bind_some]
 rw [copyS (f:=laws_toPlacementS_l3 l) l _ (by simp) (by omega) ?_ ?_]
 ·rfl
 ·intro i hi out ho
  unfold laws_toPlacementS_l3
  simp only
  rw [if_pos (by omega),rd_lt hi,Option.bind_some,sd_toPlacement l[i] (h.2 _ (List.getElem_mem hi)),Option.bind_some,rd_lt (by omega:i<out.length),Option.bind_some]
  simp
 ·intro out
  unfold laws_toPlacementS_l3
  simp
theorem sd_eqPlacementS (l:(List S_Placement)) (h:(l.length≤1048576∧∀a∈l,bd_S_Placement a)):laws_eqPlacementS l l=some true:=by
 have hl:=h.1
 unfold laws_eqPlacementS
 rw [if_neg (by simp),eqS_refl (n:=l.length) (by omega) ?_ ?_]
 ·rfl
 ·intro i hi
  unfold laws_eqPlacementS_l4
  rw [if_pos (by omega),rd_lt hi]
  simp only [Option.bind_some]
  rw [sd_eqPlacement l[i] (h.2 _ (List.getElem_mem hi))]
  rfl
 ·unfold laws_eqPlacementS_l4
  rw [if_neg (by omega)]
def wf_S_Rules (x:S_Rules):Prop:=(Lit.int .i64 x.Spacing).wf=true∧(Lit.int .i64 x.Margin).wf=true∧(Lit.int .i64 x.Angle).wf=true∧(Lit.int .i64 x.Shade).wf=true
def bd_S_Rules (x:S_Rules):Prop:=True∧True∧True∧True
theorem sd_toRules (x:S_Rules) (h:bd_S_Rules x):laws_toRules x=some x:=by
 unfold laws_toRules
 rfl
theorem sd_eqRules (x:S_Rules) (h:bd_S_Rules x):laws_eqRules x x=some true:=by
 unfold laws_eqRules
 simp []
def wf_S_Job (x:S_Job):Prop:=wf_S_Picture x.Picture∧((∀a∈x.Leaves,wf_S_Leaf a)∧x.Leaves.length≤maxLen)∧((∀a∈x.Placements,wf_S_Placement a)∧x.Placements.length≤maxLen)∧wf_S_Rules x.Rules∧(Lit.int .i64 x.Thickness).wf=true∧(Lit.int .i64 x.Kerf).wf=true∧(Lit.int .i64 x.Bevel).wf=true∧(Lit.int .i64 x.Gap).wf=true∧((∀a∈x.Order,(Lit.int .i64 a).wf=true)∧x.Order.length≤maxLen)∧((∀a∈x.Cuts,(Lit.int .i64 a).wf=true)∧x.Cuts.length≤maxLen)
def bd_S_Job (x:S_Job):Prop:=bd_S_Picture x.Picture∧(x.Leaves.length≤1048576∧∀a∈x.Leaves,bd_S_Leaf a)∧(x.Placements.length≤1048576∧∀a∈x.Placements,bd_S_Placement a)∧bd_S_Rules x.Rules∧True∧True∧True∧True∧(x.Order.length≤1048576∧∀a∈x.Order,True)∧(x.Cuts.length≤1048576∧∀a∈x.Cuts,True)
theorem sd_szJob (x:S_Job) (h:wf_S_Job x) {left:Int} (h0:0≤left) (h1:left≤1048576):Ev (laws_szJob x left) (fun v=>v≤left∧(v<0∨bd_S_Job x)):=by
 obtain ⟨w0,w1,w2,w3,w4,w5,w6,w7,w8,w9⟩:=h
 unfold laws_szJob
 refine Ev.bind (sd_szPicture x.Picture w0 (left:=left) (by omega) (by omega)) fun v0 q0=>?_
 refine Ev.ite (fun _=>Ev.ret ⟨by omega,.inl (by omega)⟩) fun c0=>?_
 refine Ev.bind (sd_szLeafS x.Leaves w1 (left:=v0) (by omega) (by omega)) fun v1 q1=>?_
 refine Ev.ite (fun _=>Ev.ret ⟨by omega,.inl (by omega)⟩) fun c1=>?_
 refine Ev.bind (sd_szPlacementS x.Placements w2 (left:=v1) (by omega) (by omega)) fun v2 q2=>?_
 refine Ev.ite (fun _=>Ev.ret ⟨by omega,.inl (by omega)⟩) fun c2=>?_
 refine Ev.bind (sd_szInt64S x.Order w8 (left:=v2) (by omega) (by omega)) fun v8 q8=>?_
 refine Ev.ite (fun _=>Ev.ret ⟨by omega,.inl (by omega)⟩) fun c8=>?_
 refine Ev.bind (sd_szInt64S x.Cuts w9 (left:=v8) (by omega) (by omega)) fun v9 q9=>?_
 refine Ev.ite (fun _=>Ev.ret ⟨by omega,.inl (by omega)⟩) fun c9=>?_
 exact Ev.ret ⟨by omega,.inr ⟨q0.2.resolve_left c0,q1.2.resolve_left c1,q2.2.resolve_left c2,⟨trivial,trivial,trivial,trivial⟩,trivial,trivial,trivial,trivial,q8.2.resolve_left c8,q9.2.resolve_left c9⟩⟩
theorem sd_toJob (x:S_Job) (h:bd_S_Job x):laws_toJob x=some x:=by
 unfold laws_toJob
 rw [sd_toPicture x.Picture h.1,Option.bind_some,sd_toLeafS x.Leaves h.2.1,Option.bind_some,sd_toPlacementS x.Placements h.2.2.1,Option.bind_some,sd_toRules x.Rules h.2.2.2.1,Option.bind_some,sd_toInt64S x.Order h.2.2.2.2.2.2.2.2.1,Option.bind_some,sd_toInt64S x.Cuts h.2.2.2.2.2.2.2.2.2,Option.bind_some]
theorem sd_eqJob (x:S_Job) (h:bd_S_Job x):laws_eqJob x x=some true:=by
 unfold laws_eqJob
 simp [sd_eqPicture x.Picture (h.1),sd_eqLeafS x.Leaves (h.2.1),sd_eqPlacementS x.Placements (h.2.2.1),sd_eqRules x.Rules (h.2.2.2.1),sd_eqInt64S x.Order (h.2.2.2.2.2.2.2.2.1),sd_eqInt64S x.Cuts (h.2.2.2.2.2.2.2.2.2)]
def wf_S_Bond (x:S_Bond):Prop:=x.Name.size≤maxLen∧(Lit.int .i64 x.Spread).wf=true∧(Lit.int .i64 x.Open).wf=true∧(Lit.int .i64 x.Press).wf=true
def bd_S_Bond (x:S_Bond):Prop:=x.Name.size≤1048576∧True∧True∧True
theorem sd_szBond (x:S_Bond) (h:wf_S_Bond x) {left:Int} (h0:0≤left) (h1:left≤1048576):Ev (laws_szBond x left) (fun v=>v≤left∧(v<0∨bd_S_Bond x)):=by
 obtain ⟨w0,w1,w2,w3⟩:=h
 unfold laws_szBond
 rw [maxLen_eq] at w0
 rw [w64_id (n:=left - (x.Name.size:Int)) (by omega) (by omega)]
 refine Ev.ite (fun _=>Ev.ret ⟨by omega,.inl (by omega)⟩) fun c0=>?_
 exact Ev.ret ⟨by omega,.inr ⟨by omega,trivial,trivial,trivial⟩⟩
theorem sd_toBond (x:S_Bond) (h:bd_S_Bond x):laws_toBond x=some x:=by
 unfold laws_toBond
 rfl
theorem sd_eqBond (x:S_Bond) (h:bd_S_Bond x):laws_eqBond x x=some true:=by
 unfold laws_eqBond
 simp []
theorem sd_szBondS (l:(List S_Bond)) (h:((∀a∈l,wf_S_Bond a)∧l.length≤maxLen)) {left:Int} (h0:0≤left) (h1:left≤1048576):Ev (laws_szBondS l left) (fun v=>v≤left∧(v<0∨(l.length≤1048576∧∀a∈l,bd_S_Bond a))):=by
 obtain ⟨hw,hl⟩:=h
 rw [maxLen_eq] at hl
 unfold laws_szBondS
 rw [w64_id (n:=left - (l.length:Int)) (by omega) (by omega)]
 refine Ev.ite (fun _=>Ev.ret ⟨by omega,.inl (by omega)⟩) fun c=>?_
 refine Ev.bind (sd_szN (f:=laws_szBondS_l5 l) l (fun a=>bd_S_Bond a) (by omega) (fun i hi u hu1 hu2=>?_) (fun u=>?_) (left:=left - (l.length:Int)) (by omega) (by omega)) fun r hr=>?_
 ·
  obtain ⟨v,v1,v2,v3⟩:=sd_szBond l[i] (hw _ (List.getElem_mem hi)) hu1 hu2
  refine ⟨v,v2,v3,?_⟩
  unfold laws_szBondS_l5
  simp only
  rw [if_pos (by omega),rd_lt hi,Option.bind_some,v1,Option.bind_some]
 ·unfold laws_szBondS_l5
  simp only
  rw [if_neg (by omega)]
 ·rcases hr with rfl | ⟨v,rfl,g1,g2,g3⟩
  ·exact Ev.ret ⟨by omega,.inl (by omega)⟩
  ·exact Ev.ret ⟨by omega,.inr ⟨by omega,g3⟩⟩
theorem sd_toBondS (l:(List S_Bond)) (h:(l.length≤1048576∧∀a∈l,bd_S_Bond a)):laws_toBondS l=some l:=by
 have hl:=h.1
 unfold laws_toBondS mkl
 rw [if_pos (by constructor<;>omega),Option.bind_some]
 rw [copyS (f:=laws_toBondS_l3 l) l _ (by simp) (by omega) ?_ ?_]
 ·rfl
 ·intro i hi out ho
  unfold laws_toBondS_l3
  simp only
  rw [if_pos (by omega),rd_lt hi,Option.bind_some,sd_toBond l[i] (h.2 _ (List.getElem_mem hi)),Option.bind_some,rd_lt (by omega:i<out.length),Option.bind_some]
  simp
 ·intro out
  unfold laws_toBondS_l3
  simp
theorem sd_eqBondS (l:(List S_Bond)) (h:(l.length≤1048576∧∀a∈l,bd_S_Bond a)):laws_eqBondS l l=some true:=by
 have hl:=h.1
 unfold laws_eqBondS
 rw [if_neg (by simp),eqS_refl (n:=l.length) (by omega) ?_ ?_]
 ·rfl
 ·intro i hi
  unfold laws_eqBondS_l4
  rw [if_pos (by omega),rd_lt hi]
  simp only [Option.bind_some]
  rw [sd_eqBond l[i] (h.2 _ (List.getElem_mem hi))]
  rfl
 ·unfold laws_eqBondS_l4
  rw [if_neg (by omega)]
def wf_S_Coat (x:S_Coat):Prop:=x.Name.size≤maxLen∧(Lit.int .i64 x.Work).wf=true∧(Lit.int .i64 x.Dry).wf=true∧(Lit.int .i64 x.Wait).wf=true
def bd_S_Coat (x:S_Coat):Prop:=x.Name.size≤1048576∧True∧True∧True
theorem sd_szCoat (x:S_Coat) (h:wf_S_Coat x) {left:Int} (h0:0≤left) (h1:left≤1048576):Ev (laws_szCoat x left) (fun v=>v≤left∧(v<0∨bd_S_Coat x)):=by
 obtain ⟨w0,w1,w2,w3⟩:=h
 unfold laws_szCoat
 rw [maxLen_eq] at w0
 rw [w64_id (n:=left - (x.Name.size:Int)) (by omega) (by omega)]
 refine Ev.ite (fun _=>Ev.ret ⟨by omega,.inl (by omega)⟩) fun c0=>?_
 exact Ev.ret ⟨by omega,.inr ⟨by omega,trivial,trivial,trivial⟩⟩
theorem sd_toCoat (x:S_Coat) (h:bd_S_Coat x):laws_toCoat x=some x:=by
 unfold laws_toCoat
 rfl
theorem sd_eqCoat (x:S_Coat) (h:bd_S_Coat x):laws_eqCoat x x=some true:=by
 unfold laws_eqCoat
 simp []
theorem sd_szCoatS (l:(List S_Coat)) (h:((∀a∈l,wf_S_Coat a)∧l.length≤maxLen)) {left:Int} (h0:0≤left) (h1:left≤1048576):Ev (laws_szCoatS l left) (fun v=>v≤left∧(v<0∨(l.length≤1048576∧∀a∈l,bd_S_Coat a))):=by
 obtain ⟨hw,hl⟩:=h
 rw [maxLen_eq] at hl
 unfold laws_szCoatS
 rw [w64_id (n:=left - (l.length:Int)) (by omega) (by omega)]
 refine Ev.ite (fun _=>Ev.ret ⟨by omega,.inl (by omega)⟩) fun c=>?_
 refine Ev.bind (sd_szN (f:=laws_szCoatS_l5 l) l (fun a=>bd_S_Coat a) (by omega) (fun i hi u hu1 hu2=>?_) (fun u=>?_) (left:=left - (l.length:Int)) (by omega) (by omega)) fun r hr=>?_
 ·
  obtain ⟨v,v1,v2,v3⟩:=sd_szCoat l[i] (hw _ (List.getElem_mem hi)) hu1 hu2
  refine ⟨v,v2,v3,?_⟩
  unfold laws_szCoatS_l5
  simp only
  rw [if_pos (by omega),rd_lt hi,Option.bind_some,v1,Option.bind_some]
 ·unfold laws_szCoatS_l5
  simp only
  rw [if_neg (by omega)]
 ·rcases hr with rfl | ⟨v,rfl,g1,g2,g3⟩
  ·exact Ev.ret ⟨by omega,.inl (by omega)⟩
  ·exact Ev.ret ⟨by omega,.inr ⟨by omega,g3⟩⟩
theorem sd_toCoatS (l:(List S_Coat)) (h:(l.length≤1048576∧∀a∈l,bd_S_Coat a)):laws_toCoatS l=some l:=by
 have hl:=h.1
 unfold laws_toCoatS mkl
 rw [if_pos (by constructor<;>omega),Option.bind_some]
 rw [copyS (f:=laws_toCoatS_l3 l) l _ (by simp) (by omega) ?_ ?_]
 ·rfl
 ·intro i hi out ho
  unfold laws_toCoatS_l3
  simp only
  rw [if_pos (by omega),rd_lt hi,Option.bind_some,sd_toCoat l[i] (h.2 _ (List.getElem_mem hi)),Option.bind_some,rd_lt (by omega:i<out.length),Option.bind_some]
  simp
 ·intro out
  unfold laws_toCoatS_l3
  simp
theorem sd_eqCoatS (l:(List S_Coat)) (h:(l.length≤1048576∧∀a∈l,bd_S_Coat a)):laws_eqCoatS l l=some true:=by
 have hl:=h.1
 unfold laws_eqCoatS
 rw [if_neg (by simp),eqS_refl (n:=l.length) (by omega) ?_ ?_]
 ·rfl
 ·intro i hi
  unfold laws_eqCoatS_l4
  rw [if_pos (by omega),rd_lt hi]
  simp only [Option.bind_some]
  rw [sd_eqCoat l[i] (h.2 _ (List.getElem_mem hi))]
  rfl
 ·unfold laws_eqCoatS_l4
  rw [if_neg (by omega)]
def wf_S_Rates (x:S_Rates):Prop:=(Lit.int .i64 x.Hour).wf=true∧(Lit.int .i64 x.Edge).wf=true∧(Lit.int .i64 x.Face).wf=true∧(Lit.int .i64 x.Waste).wf=true∧(Lit.int .i64 x.Margin).wf=true
def bd_S_Rates (x:S_Rates):Prop:=True∧True∧True∧True∧True
theorem sd_toRates (x:S_Rates) (h:bd_S_Rates x):laws_toRates x=some x:=by
 unfold laws_toRates
 rfl
theorem sd_eqRates (x:S_Rates) (h:bd_S_Rates x):laws_eqRates x x=some true:=by
 unfold laws_eqRates
 simp []
def wf_S_Desk (x:S_Desk):Prop:=wf_S_Job x.Job∧((∀a∈x.Bonds,wf_S_Bond a)∧x.Bonds.length≤maxLen)∧((∀a∈x.Coats,wf_S_Coat a)∧x.Coats.length≤maxLen)∧wf_S_Rates x.Rates
def bd_S_Desk (x:S_Desk):Prop:=bd_S_Job x.Job∧(x.Bonds.length≤1048576∧∀a∈x.Bonds,bd_S_Bond a)∧(x.Coats.length≤1048576∧∀a∈x.Coats,bd_S_Coat a)∧bd_S_Rates x.Rates
theorem sd_szDesk (x:S_Desk) (h:wf_S_Desk x) {left:Int} (h0:0≤left) (h1:left≤1048576):Ev (laws_szDesk x left) (fun v=>v≤left∧(v<0∨bd_S_Desk x)):=by
 obtain ⟨w0,w1,w2,w3⟩:=h
 unfold laws_szDesk
 refine Ev.bind (sd_szJob x.Job w0 (left:=left) (by omega) (by omega)) fun v0 q0=>?_
 refine Ev.ite (fun _=>Ev.ret ⟨by omega,.inl (by omega)⟩) fun c0=>?_
 refine Ev.bind (sd_szBondS x.Bonds w1 (left:=v0) (by omega) (by omega)) fun v1 q1=>?_
 refine Ev.ite (fun _=>Ev.ret ⟨by omega,.inl (by omega)⟩) fun c1=>?_
 refine Ev.bind (sd_szCoatS x.Coats w2 (left:=v1) (by omega) (by omega)) fun v2 q2=>?_
 refine Ev.ite (fun _=>Ev.ret ⟨by omega,.inl (by omega)⟩) fun c2=>?_
 exact Ev.ret ⟨by omega,.inr ⟨q0.2.resolve_left c0,q1.2.resolve_left c1,q2.2.resolve_left c2,⟨trivial,trivial,trivial,trivial,trivial⟩⟩⟩
theorem sd_toDesk (x:S_Desk) (h:bd_S_Desk x):laws_toDesk x=some x:=by
 unfold laws_toDesk
 rw [sd_toJob x.Job h.1,Option.bind_some,sd_toBondS x.Bonds h.2.1,Option.bind_some,sd_toCoatS x.Coats h.2.2.1,Option.bind_some,sd_toRates x.Rates h.2.2.2,Option.bind_some]
theorem sd_eqDesk (x:S_Desk) (h:bd_S_Desk x):laws_eqDesk x x=some true:=by
 unfold laws_eqDesk
 simp [sd_eqJob x.Job (h.1),sd_eqBondS x.Bonds (h.2.1),sd_eqCoatS x.Coats (h.2.2.1),sd_eqRates x.Rates (h.2.2.2)]
theorem sd_ints (a b:List Int):slices_Equal_int64_int64 a b=spec_l00Same a b:=rfl
theorem sd_points (a b:List S_Point):slices_Equal_impl_Point_impl_Point a b=spec_l03Equal a b:=rfl
theorem sd_ends {ρ:Type} {n:Nat} (hn:n≤1048576) {f:Int→Option (Int ⊕ ρ)} (h1:∀i:Nat,i<n→f (i:Int)=some (.inl (w64 ((i:Int)+1)))∨∃r,f (i:Int)=some (.inr r)) (h2:∃r,f (n:Int)=some (.inr r)):∃r,loopO f 0=some r:=scanEnds n (by omega) h1 h2
theorem sd_l00 (a b:List Int) (ha:a.length≤1048576):∃v,spec_l00Same a b=some v:=by
 unfold spec_l00Same
 split
 ·exact ⟨_,rfl⟩
 ·obtain ⟨o,ho⟩:=sd_ends ha (f:=spec_l00Same_l4 a b) (fun i hi=>by
   unfold spec_l00Same_l4
   rw [if_pos (by omega),rd_lt hi,Option.bind_some,rd_lt (show i<b.length by omega),Option.bind_some]
   split
   ·exact .inr ⟨_,rfl⟩
   ·exact .inl rfl) ⟨_,by unfold spec_l00Same_l4;rw [if_neg (by omega)]⟩
  rw [ho]
  cases o<;>exact ⟨_,rfl⟩
theorem sd_l03 (a b:List S_Point) (ha:a.length≤1048576):∃v,spec_l03Equal a b=some v:=by
 unfold spec_l03Equal
 split
 ·exact ⟨_,rfl⟩
 ·obtain ⟨o,ho⟩:=sd_ends ha (f:=spec_l03Equal_l4 a b) (fun i hi=>by
   unfold spec_l03Equal_l4
   rw [if_pos (by omega),rd_lt hi,Option.bind_some,rd_lt (show i<b.length by omega),Option.bind_some]
   split
   ·exact .inl rfl
   ·exact .inr ⟨_,rfl⟩) ⟨_,by unfold spec_l03Equal_l4;rw [if_neg (by omega)]⟩
  rw [ho]
  cases o<;>exact ⟨_,rfl⟩
theorem sd_draw (a b:S_Drawing) (ha:bd_S_Drawing a):∃v,spec_l05Same a b=some v∧impl_SameDrawing a b=some v:=by
 obtain ⟨_,_,⟨hp,_⟩,⟨hf,hF⟩⟩:=ha
 obtain ⟨v,hv⟩:=sd_l03 a.Points b.Points hp
 unfold spec_l05Same impl_SameDrawing slices_EqualFunc_impl_Face_impl_Face_impl_Face_impl_Face
 rw [sd_points,hv]
 by_cases c1:a.Width=b.Width
 ·by_cases c2:a.Height=b.Height
  ·rw [if_neg (fun h=>h c1),if_neg (fun h=>h c2),if_pos c1,if_pos c2]
   simp only [Option.bind_some]
   cases v with
   | false=>exact ⟨false,rfl,rfl⟩
   | true=>
    by_cases c3:(a.Faces.length:Int)=(b.Faces.length:Int)
    ·have e:∀i:Nat,i<a.Faces.length→∃w:Bool,spec_l05Same_l4 a b (i:Int)=(if w=true then some (.inl (w64 ((i:Int)+1))) else some (.inr (.inr false)))∧
      slices_EqualFunc_impl_Face_impl_Face_impl_Face_impl_Face_l4 (fun a0 a1=>impl_SameDrawing_c1 a0 a1) a.Faces b.Faces (i:Int)=(if w=true then some (.inl (w64 ((i:Int)+1))) else some (.inr (.inr false))):=by
      intro i hi
      have hi2:i<b.Faces.length:=by omega
      unfold spec_l05Same_l4 slices_EqualFunc_impl_Face_impl_Face_impl_Face_impl_Face_l4 impl_SameDrawing_c1
      rw [if_pos (by omega),if_pos (by omega),rd_lt hi,rd_lt hi2]
      simp only [Option.bind_some,sd_ints]
      obtain ⟨w,hw⟩:=sd_l00 (a.Faces[i]).Ring (b.Faces[i]).Ring (hF _ (List.getElem_mem hi)).2.1
      rw [hw]
      by_cases c:(a.Faces[i]).Name=(b.Faces[i]).Name
      ·rw [if_neg (fun h=>h c),if_pos c]
       refine ⟨w,?_,?_⟩<;>cases w<;>rfl
      ·rw [if_pos c,if_neg c]
       exact ⟨false,rfl,rfl⟩
     have key:∀(m i:Nat),i+m=a.Faces.length→∃o,loopO (spec_l05Same_l4 a b) (i:Int)=some o∧loopO (slices_EqualFunc_impl_Face_impl_Face_impl_Face_impl_Face_l4 (fun a0 a1=>impl_SameDrawing_c1 a0 a1) a.Faces b.Faces) (i:Int)=some o:=by
      intro m
      induction m with
      | zero=>
       intro i hi
       refine ⟨.inl (),loopO_done ?_,loopO_done ?_⟩
       ·unfold spec_l05Same_l4;rw [if_neg (by omega)]
       ·unfold slices_EqualFunc_impl_Face_impl_Face_impl_Face_impl_Face_l4;rw [if_neg (by omega)]
      | succ m ih=>
       intro i hi
       obtain ⟨w,w1,w2⟩:=e i (by omega)
       rw [w64_succ (by omega)] at w1 w2
       cases w with
       | true=>
        rw [if_pos rfl] at w1 w2
        rw [loopO_next w1,loopO_next w2]
        exact ih (i+1) (by omega)
       | false=>exact ⟨_,loopO_done w1,loopO_done w2⟩
     obtain ⟨o,o1,o2⟩:=key a.Faces.length 0 (by omega)
     have o1':loopO (spec_l05Same_l4 a b) 0=some o:=o1
     have o2':loopO (slices_EqualFunc_impl_Face_impl_Face_impl_Face_impl_Face_l4 (fun a0 a1=>impl_SameDrawing_c1 a0 a1) a.Faces b.Faces) 0=some o:=o2
     simp only [if_true,Option.bind_some,c3,bne_self_eq_false,Bool.false_eq_true,if_false,ne_eq,not_true,o1',o2']
     cases o with
     | inl u=>exact ⟨true,rfl,rfl⟩
     | inr r=>exact ⟨r,rfl,rfl⟩
    ·have c4:((a.Faces.length:Int) != (b.Faces.length:Int))=true:=by simpa using c3
     simp only [if_true,Option.bind_some,c4,ne_eq,c3,not_false_eq_true]
     exact ⟨false,rfl,rfl⟩
  ·rw [if_neg (fun h=>h c1),if_pos c2,if_pos c1,if_neg c2]
   exact ⟨false,rfl,rfl⟩
 ·rw [if_pos c1,if_neg c1]
  exact ⟨false,rfl,rfl⟩
theorem sd_flatV (a b:S_Picture) (ha:a.Veneers.length≤1048576) (hl:(a.Veneers.length:Int)=(b.Veneers.length:Int)):∃o,loopO (spec_l08Same_l4 a b) 0=some o∧(o= .inl ()∨o= .inr false):=by
 rcases validL (f:=spec_l08Same_l4 a b) a.Veneers (fun _=>True) (by omega) (fun i hi=>by
  unfold spec_l08Same_l4
  rw [if_pos (by omega),rd_lt hi,Option.bind_some,rd_lt (by omega),Option.bind_some]
  split
  ·exact .inl ⟨rfl,trivial⟩
  ·exact .inr rfl) (by unfold spec_l08Same_l4;rw [if_neg (by omega)]) with ⟨h,_⟩ | h
 ·exact ⟨_,h,.inl rfl⟩
 ·exact ⟨_,h,.inr rfl⟩
theorem sd_flatB (a b:S_Leaf) (ha:a.Defects.length≤1048576) (hl:(a.Defects.length:Int)=(b.Defects.length:Int)):∃o,loopO (spec_l09Same_l4 a b) 0=some o∧(o= .inl ()∨o= .inr false):=by
 rcases validL (f:=spec_l09Same_l4 a b) a.Defects (fun _=>True) (by omega) (fun i hi=>by
  unfold spec_l09Same_l4
  rw [if_pos (by omega),rd_lt hi,Option.bind_some,rd_lt (by omega),Option.bind_some]
  split
  ·exact .inl ⟨rfl,trivial⟩
  ·exact .inr rfl) (by unfold spec_l09Same_l4;rw [if_neg (by omega)]) with ⟨h,_⟩ | h
 ·exact ⟨_,h,.inl rfl⟩
 ·exact ⟨_,h,.inr rfl⟩
theorem sd_flatP (a b:S_Job) (ha:a.Placements.length≤1048576) (hl:(a.Placements.length:Int)=(b.Placements.length:Int)):∃o,loopO (spec_l32Job_l9 a b) 0=some o∧(o= .inl ()∨o= .inr false):=by
 rcases validL (f:=spec_l32Job_l9 a b) a.Placements (fun _=>True) (by omega) (fun i hi=>by
  unfold spec_l32Job_l9
  rw [if_pos (by omega),rd_lt hi,Option.bind_some,rd_lt (by omega),Option.bind_some]
  split
  ·exact .inl ⟨rfl,trivial⟩
  ·exact .inr rfl) (by unfold spec_l32Job_l9;rw [if_neg (by omega)]) with ⟨h,_⟩ | h
 ·exact ⟨_,h,.inl rfl⟩
 ·exact ⟨_,h,.inr rfl⟩
theorem sd_flatO (a b:S_Desk) (ha:a.Bonds.length≤1048576) (hl:(a.Bonds.length:Int)=(b.Bonds.length:Int)):∃o,loopO (spec_SameDesk_l4 a b) 0=some o∧(o= .inl ()∨o= .inr false):=by
 rcases validL (f:=spec_SameDesk_l4 a b) a.Bonds (fun _=>True) (by omega) (fun i hi=>by
  unfold spec_SameDesk_l4
  rw [if_pos (by omega),rd_lt hi,Option.bind_some,rd_lt (by omega),Option.bind_some]
  split
  ·exact .inl ⟨rfl,trivial⟩
  ·exact .inr rfl) (by unfold spec_SameDesk_l4;rw [if_neg (by omega)]) with ⟨h,_⟩ | h
 ·exact ⟨_,h,.inl rfl⟩
 ·exact ⟨_,h,.inr rfl⟩
theorem sd_flatC (a b:S_Desk) (ha:a.Coats.length≤1048576) (hl:(a.Coats.length:Int)=(b.Coats.length:Int)):∃o,loopO (spec_SameDesk_l9 a b) 0=some o∧(o= .inl ()∨o= .inr false):=by
 rcases validL (f:=spec_SameDesk_l9 a b) a.Coats (fun _=>True) (by omega) (fun i hi=>by
  unfold spec_SameDesk_l9
  rw [if_pos (by omega),rd_lt hi,Option.bind_some,rd_lt (by omega),Option.bind_some]
  split
  ·exact .inl ⟨rfl,trivial⟩
  ·exact .inr rfl) (by unfold spec_SameDesk_l9;rw [if_neg (by omega)]) with ⟨h,_⟩ | h
 ·exact ⟨_,h,.inl rfl⟩
 ·exact ⟨_,h,.inr rfl⟩
theorem sd_ven (a b:S_Picture):loopO (slices_Equal_impl_Veneer_impl_Veneer_l4 a.Veneers b.Veneers) 0=loopO (spec_l08Same_l4 a b) 0:=rfl
theorem sd_box (a b:S_Leaf):loopO (slices_Equal_impl_Box_impl_Box_l4 a.Defects b.Defects) 0=loopO (spec_l09Same_l4 a b) 0:=rfl
theorem sd_pla (a b:S_Job):loopO (slices_Equal_impl_Placement_impl_Placement_l4 a.Placements b.Placements) 0=loopO (spec_l32Job_l9 a b) 0:=rfl
theorem sd_bon (a b:S_Desk):loopO (slices_Equal_impl_Bond_impl_Bond_l4 a.Bonds b.Bonds) 0=loopO (spec_SameDesk_l4 a b) 0:=rfl
theorem sd_coa (a b:S_Desk):loopO (slices_Equal_impl_Coat_impl_Coat_l4 a.Coats b.Coats) 0=loopO (spec_SameDesk_l9 a b) 0:=rfl
theorem sd_pic (a b:S_Picture) (ha:bd_S_Picture a):∃v,spec_l08Same a b=some v∧impl_SamePicture a b=some v:=by
 obtain ⟨hd,hv,_⟩:=ha
 obtain ⟨v,v1,v2⟩:=sd_draw a.Drawing b.Drawing hd
 unfold spec_l08Same impl_SamePicture slices_Equal_impl_Veneer_impl_Veneer
 rw [v1,v2,sd_ven]
 simp only [Option.bind_some]
 cases v with
 | false=>exact ⟨false,rfl,rfl⟩
 | true=>
  by_cases c:(a.Veneers.length:Int)=(b.Veneers.length:Int)
  ·obtain ⟨o,ho,_⟩:=sd_flatV a b hv c
   rw [if_neg (by simp [c]),if_pos rfl,if_neg (fun h=>h c),ho]
   cases o with
   | inl u=>exact ⟨true,rfl,rfl⟩
   | inr r=>exact ⟨r,rfl,rfl⟩
  ·rw [if_pos (.inr c),if_pos rfl,if_pos c]
   exact ⟨false,rfl,rfl⟩
theorem sd_leaf (a b:S_Leaf) (ha:bd_S_Leaf a):∃v,spec_l09Same a b=some v∧impl_SameLeaf a b=some v:=by
 obtain ⟨_,_,_,_,_,_,hb,_⟩:=ha
 unfold spec_l09Same impl_SameLeaf slices_Equal_impl_Box_impl_Box
 rw [sd_box]
 by_cases c1:a.Id=b.Id
 ·by_cases c2:a.Flitch=b.Flitch
  ·by_cases c3:a.Number=b.Number
   ·by_cases c4:a.Veneer.Species=b.Veneer.Species∧a.Veneer.Shade=b.Veneer.Shade∧a.Veneer.Grain=b.Veneer.Grain
    ·by_cases c5:a.Width=b.Width
     ·by_cases c6:a.Length=b.Length
      ·by_cases c7:(a.Defects.length:Int)=(b.Defects.length:Int)
       ·obtain ⟨o,ho,_⟩:=sd_flatB a b hb c7
        rw [if_neg (by
         rintro (h | h | h | h | h | h | h)
         ·exact h c1
         ·exact h c2
         ·exact h c3
         ·exact h c4
         ·exact h c5
         ·exact h c6
         ·exact h c7),if_pos c1,if_pos c2,if_pos c3,if_pos c4,if_pos c5,if_pos c6,if_neg (fun h=>h c7),ho]
        cases o with
        | inl u=>exact ⟨true,rfl,rfl⟩
        | inr r=>exact ⟨r,rfl,rfl⟩
       ·rw [if_pos (.inr (.inr (.inr (.inr (.inr (.inr c7)))))),if_pos c1,if_pos c2,if_pos c3,if_pos c4,if_pos c5,if_pos c6,if_pos c7]
        exact ⟨false,rfl,rfl⟩
      ·rw [if_pos (.inr (.inr (.inr (.inr (.inr (.inl c6)))))),if_pos c1,if_pos c2,if_pos c3,if_pos c4,if_pos c5,if_neg c6]
       exact ⟨false,rfl,rfl⟩
     ·rw [if_pos (.inr (.inr (.inr (.inr (.inl c5))))),if_pos c1,if_pos c2,if_pos c3,if_pos c4,if_neg c5]
      exact ⟨false,rfl,rfl⟩
    ·rw [if_pos (.inr (.inr (.inr (.inl c4)))),if_pos c1,if_pos c2,if_pos c3,if_neg c4]
     exact ⟨false,rfl,rfl⟩
   ·rw [if_pos (.inr (.inr (.inl c3))),if_pos c1,if_pos c2,if_neg c3]
    exact ⟨false,rfl,rfl⟩
  ·rw [if_pos (.inr (.inl c2)),if_pos c1,if_neg c2]
   exact ⟨false,rfl,rfl⟩
 ·rw [if_pos (.inl c1),if_neg c1]
  exact ⟨false,rfl,rfl⟩
theorem sd_leaves (a b:S_Job) (ha:a.Leaves.length≤1048576) (hb:∀x∈a.Leaves,bd_S_Leaf x) (hl:(a.Leaves.length:Int)=(b.Leaves.length:Int)):
 ∃o,loopO (spec_l32Job_l4 a b) 0=some o∧loopO (slices_EqualFunc_impl_Leaf_impl_Leaf_impl_Leaf_impl_Leaf_l4 (fun a0 a1=>impl_SameLeaf a0 a1) a.Leaves b.Leaves) 0=some o∧(o= .inl ()∨o= .inr false):=by
 have key:∀(m i:Nat),i+m=a.Leaves.length→∃o,loopO (spec_l32Job_l4 a b) (i:Int)=some o∧loopO (slices_EqualFunc_impl_Leaf_impl_Leaf_impl_Leaf_impl_Leaf_l4 (fun a0 a1=>impl_SameLeaf a0 a1) a.Leaves b.Leaves) (i:Int)=some o∧(o= .inl ()∨o= .inr false):=by
  intro m
  induction m with
  | zero=>
   intro i hi
   refine ⟨.inl (),loopO_done ?_,loopO_done ?_,.inl rfl⟩
   ·unfold spec_l32Job_l4;rw [if_neg (by omega)]
   ·unfold slices_EqualFunc_impl_Leaf_impl_Leaf_impl_Leaf_impl_Leaf_l4;rw [if_neg (by omega)]
  | succ m ih=>
   intro i hi
   have h1:i<a.Leaves.length:=by omega
   have h2:i<b.Leaves.length:=by omega
   obtain ⟨w,w1,w2⟩:=sd_leaf a.Leaves[i] b.Leaves[i] (hb _ (List.getElem_mem h1))
   have s1:spec_l32Job_l4 a b (i:Int)=if w=true then some (.inl (((i+1:Nat):Int))) else some (.inr (.inr false)):=by
    unfold spec_l32Job_l4
    rw [if_pos (by omega),rd_lt h1,Option.bind_some,rd_lt h2,Option.bind_some,w1,Option.bind_some,w64_succ (by omega)]
   have s2:slices_EqualFunc_impl_Leaf_impl_Leaf_impl_Leaf_impl_Leaf_l4 (fun a0 a1=>impl_SameLeaf a0 a1) a.Leaves b.Leaves (i:Int)=if w=true then some (.inl (((i+1:Nat):Int))) else some (.inr (.inr false)):=by
    unfold slices_EqualFunc_impl_Leaf_impl_Leaf_impl_Leaf_impl_Leaf_l4
    rw [if_pos (by omega),rd_lt h1,Option.bind_some,rd_lt h2,Option.bind_some]
    simp only [w2,Option.bind_some]
    rw [w64_succ (by omega)]
   cases w with
   | true=>
    rw [if_pos rfl] at s1 s2
    rw [loopO_next s1,loopO_next s2]
    exact ih (i+1) (by omega)
   | false=>exact ⟨_,loopO_done s1,loopO_done s2,.inr rfl⟩
 exact key a.Leaves.length 0 (by omega)
theorem ifs5 {α:Type} {p q r s t:Prop} [Decidable p] [Decidable q] [Decidable r] [Decidable s] [Decidable t] (X f:α):
 (if p then if q then if r then if s then if t then X else f else f else f else f else f)=if p∧q∧r∧s∧t then X else f:=by
 by_cases h1:p<;>by_cases h2:q<;>by_cases h3:r<;>by_cases h4:s<;>by_cases h5:t<;>simp [h1,h2,h3,h4,h5]
theorem sd_leavesE (a b:S_Job) (ha:a.Leaves.length≤1048576) (hb:∀x∈a.Leaves,bd_S_Leaf x):
 ∃l,slices_EqualFunc_impl_Leaf_impl_Leaf_impl_Leaf_impl_Leaf a.Leaves b.Leaves (fun a0 a1=>impl_SameLeaf a0 a1)=some l∧((a.Leaves.length:Int)≠(b.Leaves.length:Int)→l=false)∧
  ((a.Leaves.length:Int)=(b.Leaves.length:Int)→(l=true∧loopO (spec_l32Job_l4 a b) 0=some (.inl ()))∨(l=false∧loopO (spec_l32Job_l4 a b) 0=some (.inr false))):=by
 unfold slices_EqualFunc_impl_Leaf_impl_Leaf_impl_Leaf_impl_Leaf
 by_cases c:(a.Leaves.length:Int)=(b.Leaves.length:Int)
 ·obtain ⟨o,e1,e2,q⟩:=sd_leaves a b ha hb c
  rw [if_neg (fun h=>h c),e2,e1]
  rcases q with rfl | rfl
  ·exact ⟨true,rfl,fun h=>absurd c h,fun _=> .inl ⟨rfl,rfl⟩⟩
  ·exact ⟨false,rfl,fun _=>rfl,fun _=> .inr ⟨rfl,rfl⟩⟩
 ·rw [if_pos c]
  exact ⟨false,rfl,fun _=>rfl,fun h=>absurd h c⟩
theorem sd_plaE (a b:S_Job) (ha:a.Placements.length≤1048576):
 ∃l,slices_Equal_impl_Placement_impl_Placement a.Placements b.Placements=some l∧((a.Placements.length:Int)≠(b.Placements.length:Int)→l=false)∧
  ((a.Placements.length:Int)=(b.Placements.length:Int)→(l=true∧loopO (spec_l32Job_l9 a b) 0=some (.inl ()))∨(l=false∧loopO (spec_l32Job_l9 a b) 0=some (.inr false))):=by
 unfold slices_Equal_impl_Placement_impl_Placement
 by_cases c:(a.Placements.length:Int)=(b.Placements.length:Int)
 ·obtain ⟨o,e1,q⟩:=sd_flatP a b ha c
  rw [if_neg (fun h=>h c),sd_pla,e1]
  rcases q with rfl | rfl
  ·exact ⟨true,rfl,fun h=>absurd c h,fun _=> .inl ⟨rfl,rfl⟩⟩
  ·exact ⟨false,rfl,fun _=>rfl,fun _=> .inr ⟨rfl,rfl⟩⟩
 ·rw [if_pos c]
  exact ⟨false,rfl,fun _=>rfl,fun h=>absurd h c⟩
theorem sd_job (a b:S_Job) (ha:bd_S_Job a):∃v,spec_l32Job a b=some v∧impl_sameJob a b=some v:=by
 obtain ⟨hp,⟨hl1,hl2⟩,⟨hq,_⟩,_,_,_,_,_,⟨ho,_⟩,⟨hc,_⟩⟩:=ha
 obtain ⟨v,v1,v2⟩:=sd_pic a.Picture b.Picture hp
 obtain ⟨l,l1,l2,l3⟩:=sd_leavesE a b hl1 hl2
 obtain ⟨q,q1,q2,q3⟩:=sd_plaE a b hq
 obtain ⟨x,hx⟩:=sd_l00 a.Order b.Order ho
 obtain ⟨y,hy⟩:=sd_l00 a.Cuts b.Cuts hc
 let G:Prop:=(a.Rules.Spacing=b.Rules.Spacing∧a.Rules.Margin=b.Rules.Margin∧a.Rules.Angle=b.Rules.Angle∧a.Rules.Shade=b.Rules.Shade)∧a.Thickness=b.Thickness∧a.Kerf=b.Kerf∧a.Bevel=b.Bevel∧a.Gap=b.Gap
 refine ⟨v&&(l&&(q&&(decide G&&(x&&y)))),?_,?_⟩
 ·unfold spec_l32Job
  rw [v1]
  simp only [Option.bind_some]
  split
  ·rename_i h
   rcases h with h | h | h | h
   ·cases v
    ·rfl
    ·exact absurd rfl h
   ·rw [l2 h];cases v<;>rfl
   ·rw [q2 h];cases v<;>cases l<;>rfl
   ·have:decide G=false:=by
     rw [decide_eq_false_iff_not]
     rintro ⟨g1,g2,g3,g4,g5⟩
     rcases h with h | h | h | h | h
     ·exact h g1
     ·exact h g2
     ·exact h g3
     ·exact h g4
     ·exact h g5
    rw [this]
    cases v<;>cases l<;>cases q<;>rfl
  ·rename_i h
   have hv:v=true:=by
    cases v
    ·exact absurd (.inl (by simp)) h
    ·rfl
   have c1:(a.Leaves.length:Int)=(b.Leaves.length:Int):=Classical.byContradiction fun c=>h (.inr (.inl c))
   have c2:(a.Placements.length:Int)=(b.Placements.length:Int):=Classical.byContradiction fun c=>h (.inr (.inr (.inl c)))
   have g:G:=⟨Classical.byContradiction fun c=>h (.inr (.inr (.inr (.inl c)))),Classical.byContradiction fun c=>h (.inr (.inr (.inr (.inr (.inl c))))),Classical.byContradiction fun c=>h (.inr (.inr (.inr (.inr (.inr (.inl c)))))),
    Classical.byContradiction fun c=>h (.inr (.inr (.inr (.inr (.inr (.inr (.inl c))))))),Classical.byContradiction fun c=>h (.inr (.inr (.inr (.inr (.inr (.inr (.inr c)))))))⟩
   have dg:decide G=true:=decide_eq_true g
   rw [hv,dg,hx,hy]
   rcases l3 c1 with ⟨rfl,e1⟩ | ⟨rfl,e1⟩<;>rw [e1]
   ·rcases q3 c2 with ⟨rfl,e2⟩ | ⟨rfl,e2⟩<;>simp only [Option.bind_some,e2]
    ·cases x<;>rfl
    ·rfl
   ·rfl
 ·unfold impl_sameJob
  simp only [v2,l1,q1,sd_ints,hx,hy,Option.bind_some,ifs5]
  by_cases g:G
  ·rw [show decide G=true from decide_eq_true g]
   have e:(v=true∧l=true∧q=true∧(a.Rules.Spacing=b.Rules.Spacing∧a.Rules.Margin=b.Rules.Margin∧a.Rules.Angle=b.Rules.Angle∧a.Rules.Shade=b.Rules.Shade)∧a.Thickness=b.Thickness∧a.Kerf=b.Kerf∧a.Bevel=b.Bevel∧a.Gap=b.Gap∧x=true)↔(v=true∧l=true∧q=true∧x=true):=
    ⟨fun h=>⟨h.1,h.2.1,h.2.2.1,h.2.2.2.2.2.2.2.2⟩,fun h=>⟨h.1,h.2.1,h.2.2.1,g.1,g.2.1,g.2.2.1,g.2.2.2.1,g.2.2.2.2,h.2.2.2⟩⟩
   simp only [e]
   cases v<;>cases l<;>cases q<;>cases x<;>simp
  ·rw [show decide G=false from decide_eq_false g,if_neg (fun h=>g ⟨h.2.2.2.1,h.2.2.2.2.1,h.2.2.2.2.2.1,h.2.2.2.2.2.2.1,h.2.2.2.2.2.2.2.1⟩)]
   cases v<;>cases l<;>cases q<;>rfl
theorem sd_desk (a b:S_Desk) (ha:bd_S_Desk a):∃v,spec_SameDesk a b=some v∧impl_SameDesk a b=some v:=by
 obtain ⟨hj,⟨hb,_⟩,⟨hc,_⟩,_⟩:=ha
 obtain ⟨v,v1,v2⟩:=sd_job a.Job b.Job hj
 obtain ⟨l,l1,l2,l3⟩:∃l,slices_Equal_impl_Bond_impl_Bond a.Bonds b.Bonds=some l∧((a.Bonds.length:Int)≠(b.Bonds.length:Int)→l=false)∧
  ((a.Bonds.length:Int)=(b.Bonds.length:Int)→(l=true∧loopO (spec_SameDesk_l4 a b) 0=some (.inl ()))∨(l=false∧loopO (spec_SameDesk_l4 a b) 0=some (.inr false))):=by
  unfold slices_Equal_impl_Bond_impl_Bond
  by_cases c:(a.Bonds.length:Int)=(b.Bonds.length:Int)
  ·obtain ⟨o,e1,q⟩:=sd_flatO a b hb c
   rw [if_neg (fun h=>h c),sd_bon,e1]
   rcases q with rfl | rfl
   ·exact ⟨true,rfl,fun h=>absurd c h,fun _=> .inl ⟨rfl,rfl⟩⟩
   ·exact ⟨false,rfl,fun _=>rfl,fun _=> .inr ⟨rfl,rfl⟩⟩
  ·rw [if_pos c]
   exact ⟨false,rfl,fun _=>rfl,fun h=>absurd h c⟩
 obtain ⟨q,q1,q2,q3⟩:∃l,slices_Equal_impl_Coat_impl_Coat a.Coats b.Coats=some l∧((a.Coats.length:Int)≠(b.Coats.length:Int)→l=false)∧
  ((a.Coats.length:Int)=(b.Coats.length:Int)→(l=true∧loopO (spec_SameDesk_l9 a b) 0=some (.inl ()))∨(l=false∧loopO (spec_SameDesk_l9 a b) 0=some (.inr false))):=by
  unfold slices_Equal_impl_Coat_impl_Coat
  by_cases c:(a.Coats.length:Int)=(b.Coats.length:Int)
  ·obtain ⟨o,e1,q⟩:=sd_flatC a b hc c
   rw [if_neg (fun h=>h c),sd_coa,e1]
   rcases q with rfl | rfl
   ·exact ⟨true,rfl,fun h=>absurd c h,fun _=> .inl ⟨rfl,rfl⟩⟩
   ·exact ⟨false,rfl,fun _=>rfl,fun _=> .inr ⟨rfl,rfl⟩⟩
  ·rw [if_pos c]
   exact ⟨false,rfl,fun _=>rfl,fun h=>absurd h c⟩
 let G:Prop:=a.Rates.Hour=b.Rates.Hour∧a.Rates.Edge=b.Rates.Edge∧a.Rates.Face=b.Rates.Face∧a.Rates.Waste=b.Rates.Waste∧a.Rates.Margin=b.Rates.Margin
 refine ⟨v&&(l&&(q&&decide G)),?_,?_⟩
 ·unfold spec_SameDesk
  rw [v1]
  simp only [Option.bind_some]
  split
  ·rename_i h
   rcases h with h | h | h | h
   ·cases v
    ·rfl
    ·exact absurd rfl h
   ·rw [show decide G=false from decide_eq_false h];cases v<;>cases l<;>cases q<;>rfl
   ·rw [l2 h];cases v<;>rfl
   ·rw [q2 h];cases v<;>cases l<;>rfl
  ·rename_i h
   have hv:v=true:=by
    cases v
    ·exact absurd (.inl (by simp)) h
    ·rfl
   have g:G:=Classical.byContradiction fun c=>h (.inr (.inl c))
   have c1:(a.Bonds.length:Int)=(b.Bonds.length:Int):=Classical.byContradiction fun c=>h (.inr (.inr (.inl c)))
   have c2:(a.Coats.length:Int)=(b.Coats.length:Int):=Classical.byContradiction fun c=>h (.inr (.inr (.inr c)))
   rw [hv,show decide G=true from decide_eq_true g]
   rcases l3 c1 with ⟨rfl,e1⟩ | ⟨rfl,e1⟩<;>rw [e1]
   ·rcases q3 c2 with ⟨rfl,e2⟩ | ⟨rfl,e2⟩<;>simp only [Option.bind_some,e2]<;>rfl
   ·rfl
 ·unfold impl_SameDesk
  have d:(a.Rates.Hour==b.Rates.Hour&&(a.Rates.Edge==b.Rates.Edge&&(a.Rates.Face==b.Rates.Face&&(a.Rates.Waste==b.Rates.Waste&&a.Rates.Margin==b.Rates.Margin))))=decide G:=by
   rw [Bool.eq_iff_iff]
   simp [G]
  simp only [v2,l1,q1,d,Option.bind_some]
  cases v<;>cases l<;>cases q<;>rfl
theorem law_SameDesk (a b:S_Desk) (wa:wf_S_Desk a) (wb:wf_S_Desk b):laws_FnExactSameDesk a b=some true:=by
 unfold laws_FnExactSameDesk
 obtain ⟨v,v1,v2,v3⟩:=sd_szDesk a wa (left:=1048576) (by omega) (by omega)
 rw [v1,Option.bind_some]
 by_cases c1:v<0
 ·rw [if_pos c1]
 rw [if_neg c1]
 have ha:=v3.resolve_left c1
 obtain ⟨u,u1,u2,u3⟩:=sd_szDesk b wb (left:=v) (by omega) (by omega)
 rw [u1,Option.bind_some]
 by_cases c2:u<0
 ·rw [if_pos c2]
 rw [if_neg c2]
 have hb:=u3.resolve_left c2
 obtain ⟨z,z1,z2⟩:=sd_desk a b ha
 simp only [sd_toDesk a ha,sd_toDesk b hb,z1,z2,sd_eqDesk a ha,sd_eqDesk b hb,Option.bind_some,if_true]
end Go.Pw
