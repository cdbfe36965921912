/- The plain law of FnExactValidDesk. Conditions: none. -/
import Derived.Test.YtonnimmkimccfaaGreatTvdT
import Derived.Test.YtonnimmkimccfaaGreatSimPe
import Derived.Test.YtonnimmkimccfaaGreatSimPn
import Derived.Test.YtonnimmkimccfaaGreatSimRh
namespace Go.Pw
open Go.Sim (min2 max2)
set_option linter.unusedVariables false
set_option linter.unusedSimpArgs false
theorem maxLen_eq:maxLen=9223372036854775807:=rfl
theorem vd_szN {α:Type} {f:Int×Int→Option ((Int×Int) ⊕ (Int ⊕ Int))} (l:List α) (B:α→Prop) (hl:l.length<4611686018427387904)
 (h1:∀(i:Nat) (hi:i<l.length) (u:Int),0≤u→u≤1048576→∃v,v≤u∧(v<0∨B l[i])∧f (u,(i:Int))=if v<0 then some (.inr (.inr (-1))) else some (.inl (v,w64 ((i:Int)+1))))
 (h2:∀u,f (u,(l.length:Int))=some (.inr (.inl u))) {left:Int} (h3:0≤left) (h4:left≤1048576):
 Ev (loopO f (left,0)) (fun r=>r= .inr (-1)∨∃v,r= .inl v∧0≤v∧v≤left∧∀x∈l,B x):=by
 refine Ev.loop (fun s=>∃i:Nat,s.2=(i:Int)∧i≤l.length∧0≤s.1∧s.1≤left∧∀x∈l.take i,B x) (fun s=>((l.length:Int) - s.2).toNat) ?_ ⟨0,rfl,Nat.zero_le _,h3,Int.le_refl _,fun x hx=>(by simp at hx)⟩
 rintro ⟨u,i⟩ ⟨j,rfl,j1,j2,j3,j4⟩
 simp only at j2 j3
 by_cases c:j<l.length
 ·obtain ⟨v,v1,v2,v3⟩:=h1 j c u j2 (by omega)
  rw [v3]
  refine Ev.ite (fun _=>Ev.ret (.inl rfl)) fun hv=>?_
  rw [w64_succ (by omega)]
  refine Ev.ret ⟨⟨j+1,rfl,by omega,by simp only;omega,by simp only;omega,fun x hx=>?_⟩,by simp only;omega⟩
  rw [List.take_succ_eq_append_getElem c] at hx
  rcases List.mem_append.1 hx with hx | hx
  ·exact j4 x hx
  ·rw [List.mem_singleton] at hx
   subst hx
   exact v2.resolve_left hv
 ·obtain rfl:j=l.length:=by omega
  rw [h2]
  exact Ev.ret (.inr ⟨u,rfl,j2,j3,by rwa [List.take_length] at j4⟩)
def wf_S_Point (x:S_Point):Prop:=(Lit.int .i64 x.X).wf=true∧(Lit.int .i64 x.Y).wf=true
def bd_S_Point (x:S_Point):Prop:=True∧True
theorem vd_toPoint (x:S_Point) (h:bd_S_Point x):laws_toPoint x=some x:=by
 unfold laws_toPoint
 rfl
theorem vd_eqPoint (x:S_Point) (h:bd_S_Point x):laws_eqPoint x x=some true:=by
 unfold laws_eqPoint
 simp []
theorem vd_szPointS (l:(List S_Point)) (h:((∀a∈l,wf_S_Point a)∧l.length≤maxLen)) {left:Int} (h0:0≤left) (h1:left≤1048576):Ev (laws_szPointS l left) (fun v=>v≤left∧(v<0∨(l.length≤1048576∧∀a∈l,bd_S_Point a))):=by
 obtain ⟨hw,hl⟩:=h
 rw [maxLen_eq] at hl
 unfold laws_szPointS
 rw [w64_id (n:=left - (l.length:Int)) (by omega) (by omega)]
 refine Ev.ite (fun _=>Ev.ret ⟨by omega,.inl (by omega)⟩) fun c=>?_
 exact Ev.ret ⟨by omega,.inr ⟨by omega,fun a _=>⟨trivial,trivial⟩⟩⟩
theorem vd_toPointS (l:(List S_Point)) (h:(l.length≤1048576∧∀a∈l,bd_S_Point a)):laws_toPointS l=some l:=by
 have hl:=h.1
 unfold laws_toPointS mkl
 rw [if_pos (by constructor<;>omega),Option.bind_some]
 rw [copyS (f:=laws_toPointS_l3 l) l _ (by simp) (by omega) ?_ ?_]
 ·rfl
 ·intro i hi out ho
  unfold laws_toPointS_l3
  simp only
  rw [if_pos (by omega),rd_lt hi,Option.bind_some,vd_toPoint l[i] (h.2 _ (List.getElem_mem hi)),Option.bind_some,rd_lt (by omega:i<out.length),Option.bind_some]
  simp
 ·intro out
  unfold laws_toPointS_l3
  simp
theorem vd_eqPointS (l:(List S_Point)) (h:(l.length≤1048576∧∀a∈l,bd_S_Point a)):laws_eqPointS l l=some true:=by
 have hl:=h.1
 unfold laws_eqPointS
 rw [if_neg (by simp),eqS_refl (n:=l.length) (by omega) ?_ ?_]
 ·rfl
 ·intro i hi
  unfold laws_eqPointS_l4
  rw [if_pos (by omega),rd_lt hi]
  simp only [Option.bind_some]
  rw [vd_eqPoint l[i] (h.2 _ (List.getElem_mem hi))]
  rfl
 ·unfold laws_eqPointS_l4
  rw [if_neg (by omega)]
theorem vd_szInt64S (l:(List Int)) (h:((∀a∈l,(Lit.int .i64 a).wf=true)∧l.length≤maxLen)) {left:Int} (h0:0≤left) (h1:left≤1048576):Ev (laws_szInt64S l left) (fun v=>v≤left∧(v<0∨(l.length≤1048576∧∀a∈l,True))):=by
 obtain ⟨hw,hl⟩:=h
 rw [maxLen_eq] at hl
 unfold laws_szInt64S
 rw [w64_id (n:=left - (l.length:Int)) (by omega) (by omega)]
 refine Ev.ite (fun _=>Ev.ret ⟨by omega,.inl (by omega)⟩) fun c=>?_
 exact Ev.ret ⟨by omega,.inr ⟨by omega,fun a _=>trivial⟩⟩
theorem vd_toInt64S (l:(List Int)) (h:(l.length≤1048576∧∀a∈l,True)):laws_toInt64S l=some l:=by
 have hl:=h.1
 unfold laws_toInt64S mkl
 rw [if_pos (by constructor<;>omega),Option.bind_some]
 rw [copyS (f:=laws_toInt64S_l3 l) l _ (by simp) (by omega) ?_ ?_]
 ·rfl
 ·intro i hi out ho
  unfold laws_toInt64S_l3
  simp only
  rw [if_pos (by omega),rd_lt hi,Option.bind_some,rd_lt (by omega:i<out.length),Option.bind_some]
  simp
 ·intro out
  unfold laws_toInt64S_l3
  simp
theorem vd_eqInt64S (l:(List Int)) (h:(l.length≤1048576∧∀a∈l,True)):laws_eqInt64S l l=some true:=by
 have hl:=h.1
 unfold laws_eqInt64S
 rw [if_neg (by simp),eqS_refl (n:=l.length) (by omega) ?_ ?_]
 ·rfl
 ·intro i hi
  unfold laws_eqInt64S_l4
  rw [if_pos (by omega),rd_lt hi]
  simp only [Option.bind_some]
  simp
 ·unfold laws_eqInt64S_l4
  rw [if_neg (by omega)]
def wf_S_Face (x:S_Face):Prop:=x.Name.size≤maxLen∧((∀a∈x.Ring,(Lit.int .i64 a).wf=true)∧x.Ring.length≤maxLen)
def bd_S_Face (x:S_Face):Prop:=x.Name.size≤1048576∧(x.Ring.length≤1048576∧∀a∈x.Ring,True)
theorem vd_szFace (x:S_Face) (h:wf_S_Face x) {left:Int} (h0:0≤left) (h1:left≤1048576):Ev (laws_szFace x left) (fun v=>v≤left∧(v<0∨bd_S_Face x)):=by
 obtain ⟨w0,w1⟩:=h
 unfold laws_szFace
 rw [maxLen_eq] at w0
 rw [w64_id (n:=left - (x.Name.size:Int)) (by omega) (by omega)]
 refine Ev.ite (fun _=>Ev.ret ⟨by omega,.inl (by omega)⟩) fun c0=>?_
 refine Ev.bind (vd_szInt64S x.Ring w1 (left:=left - (x.Name.size:Int)) (by omega) (by omega)) fun v1 q1=>?_
 refine Ev.ite (fun _=>Ev.ret ⟨by omega,.inl (by omega)⟩) fun c1=>?_
 exact Ev.ret ⟨by omega,.inr ⟨by omega,q1.2.resolve_left c1⟩⟩
theorem vd_toFace (x:S_Face) (h:bd_S_Face x):laws_toFace x=some x:=by
 unfold laws_toFace
 rw [vd_toInt64S x.Ring h.2,Option.bind_some]
theorem vd_eqFace (x:S_Face) (h:bd_S_Face x):laws_eqFace x x=some true:=by
 unfold laws_eqFace
 simp [vd_eqInt64S x.Ring (h.2)]
theorem vd_szFaceS (l:(List S_Face)) (h:((∀a∈l,wf_S_Face a)∧l.length≤maxLen)) {left:Int} (h0:0≤left) (h1:left≤1048576):Ev (laws_szFaceS l left) (fun v=>v≤left∧(v<0∨(l.length≤1048576∧∀a∈l,bd_S_Face a))):=by
 obtain ⟨hw,hl⟩:=h
 rw [maxLen_eq] at hl
 unfold laws_szFaceS
 rw [w64_id (n:=left - (l.length:Int)) (by omega) (by omega)]
 refine Ev.ite (fun _=>Ev.ret ⟨by omega,.inl (by omega)⟩) fun c=>?_
 refine Ev.bind (vd_szN (f:=laws_szFaceS_l5 l) l (fun a=>bd_S_Face a) (by omega) (fun i hi u hu1 hu2=>?_) (fun u=>?_) (left:=left - (l.length:Int)) (by omega) (by omega)) fun r hr=>?_
 ·
  obtain ⟨v,v1,v2,v3⟩:=vd_szFace l[i] (hw _ (List.getElem_mem hi)) hu1 hu2
  refine ⟨v,v2,v3,?_⟩
  unfold laws_szFaceS_l5
  simp only
  rw [if_pos (by omega),rd_lt hi,Option.bind_some,v1,Option.bind_some]
 ·unfold laws_szFaceS_l5
  simp only
  rw [if_neg (by omega)]
 ·rcases hr with rfl | ⟨v,rfl,g1,g2,g3⟩
  ·exact Ev.ret ⟨by omega,.inl (by omega)⟩
  ·exact Ev.ret ⟨by omega,.inr ⟨by omega,g3⟩⟩
theorem vd_toFaceS (l:(List S_Face)) (h:(l.length≤1048576∧∀a∈l,bd_S_Face a)):laws_toFaceS l=some l:=by
 have hl:=h.1
 unfold laws_toFaceS mkl
 rw [if_pos (by constructor<;>omega),Option.bind_some]
 rw [copyS (f:=laws_toFaceS_l3 l) l _ (by simp) (by omega) ?_ ?_]
 ·rfl
 ·intro i hi out ho
  unfold laws_toFaceS_l3
  simp only
  rw [if_pos (by omega),rd_lt hi,Option.bind_some,vd_toFace l[i] (h.2 _ (List.getElem_mem hi)),Option.bind_some,rd_lt (by omega:i<out.length),Option.bind_some]
  simp
 ·intro out
  unfold laws_toFaceS_l3
  simp
theorem vd_eqFaceS (l:(List S_Face)) (h:(l.length≤1048576∧∀a∈l,bd_S_Face a)):laws_eqFaceS l l=some true:=by
 have hl:=h.1
 unfold laws_eqFaceS
 rw [if_neg (by simp),eqS_refl (n:=l.length) (by omega) ?_ ?_]
 ·rfl
 ·intro i hi
  unfold laws_eqFaceS_l4
  rw [if_pos (by omega),rd_lt hi]
  simp only [Option.bind_some]
  rw [vd_eqFace l[i] (h.2 _ (List.getElem_mem hi))]
  rfl
 ·unfold laws_eqFaceS_l4
  rw [if_neg (by omega)]
def wf_S_Drawing (x:S_Drawing):Prop:=(Lit.int .i64 x.Width).wf=true∧(Lit.int .i64 x.Height).wf=true∧((∀a∈x.Points,wf_S_Point a)∧x.Points.length≤maxLen)∧((∀a∈x.Faces,wf_S_Face a)∧x.Faces.length≤maxLen)
def bd_S_Drawing (x:S_Drawing):Prop:=True∧True∧(x.Points.length≤1048576∧∀a∈x.Points,bd_S_Point a)∧(x.Faces.length≤1048576∧∀a∈x.Faces,bd_S_Face a)
theorem vd_szDrawing (x:S_Drawing) (h:wf_S_Drawing x) {left:Int} (h0:0≤left) (h1:left≤1048576):Ev (laws_szDrawing x left) (fun v=>v≤left∧(v<0∨bd_S_Drawing x)):=by
 obtain ⟨w0,w1,w2,w3⟩:=h
 unfold laws_szDrawing
 refine Ev.bind (vd_szPointS x.Points w2 (left:=left) (by omega) (by omega)) fun v2 q2=>?_
 refine Ev.ite (fun _=>Ev.ret ⟨by omega,.inl (by omega)⟩) fun c2=>?_
 refine Ev.bind (vd_szFaceS x.Faces w3 (left:=v2) (by omega) (by omega)) fun v3 q3=>?_
 refine Ev.ite (fun _=>Ev.ret ⟨by omega,.inl (by omega)⟩) fun c3=>?_
 exact Ev.ret ⟨by omega,.inr ⟨trivial,trivial,q2.2.resolve_left c2,q3.2.resolve_left c3⟩⟩
theorem vd_toDrawing (x:S_Drawing) (h:bd_S_Drawing x):laws_toDrawing x=some x:=by
 unfold laws_toDrawing
 rw [vd_toPointS x.Points h.2.2.1,Option.bind_some,vd_toFaceS x.Faces h.2.2.2,Option.bind_some]
theorem vd_eqDrawing (x:S_Drawing) (h:bd_S_Drawing x):laws_eqDrawing x x=some true:=by
 unfold laws_eqDrawing
 simp [vd_eqPointS x.Points (h.2.2.1),vd_eqFaceS x.Faces (h.2.2.2)]
def wf_S_Veneer (x:S_Veneer):Prop:=x.Species.size≤maxLen∧(Lit.int .i64 x.Shade).wf=true∧(Lit.int .i64 x.Grain).wf=true
def bd_S_Veneer (x:S_Veneer):Prop:=x.Species.size≤1048576∧True∧True
theorem vd_szVeneer (x:S_Veneer) (h:wf_S_Veneer x) {left:Int} (h0:0≤left) (h1:left≤1048576):Ev (laws_szVeneer x left) (fun v=>v≤left∧(v<0∨bd_S_Veneer x)):=by
 obtain ⟨w0,w1,w2⟩:=h
 unfold laws_szVeneer
 rw [maxLen_eq] at w0
 rw [w64_id (n:=left - (x.Species.size:Int)) (by omega) (by omega)]
 refine Ev.ite (fun _=>Ev.ret ⟨by omega,.inl (by omega)⟩) fun c0=>?_
 exact Ev.ret ⟨by omega,.inr ⟨by omega,trivial,trivial⟩⟩
theorem vd_toVeneer (x:S_Veneer) (h:bd_S_Veneer x):laws_toVeneer x=some x:=by
 unfold laws_toVeneer
 rfl
theorem vd_eqVeneer (x:S_Veneer) (h:bd_S_Veneer x):laws_eqVeneer x x=some true:=by
 unfold laws_eqVeneer
 simp []
theorem vd_szVeneerS (l:(List S_Veneer)) (h:((∀a∈l,wf_S_Veneer a)∧l.length≤maxLen)) {left:Int} (h0:0≤left) (h1:left≤1048576):Ev (laws_szVeneerS l left) (fun v=>v≤left∧(v<0∨(l.length≤1048576∧∀a∈l,bd_S_Veneer a))):=by
 obtain ⟨hw,hl⟩:=h
 rw [maxLen_eq] at hl
 unfold laws_szVeneerS
 rw [w64_id (n:=left - (l.length:Int)) (by omega) (by omega)]
 refine Ev.ite (fun _=>Ev.ret ⟨by omega,.inl (by omega)⟩) fun c=>?_
 refine Ev.bind (vd_szN (f:=laws_szVeneerS_l5 l) l (fun a=>bd_S_Veneer a) (by omega) (fun i hi u hu1 hu2=>?_) (fun u=>?_) (left:=left - (l.length:Int)) (by omega) (by omega)) fun r hr=>?_
 ·
  obtain ⟨v,v1,v2,v3⟩:=vd_szVeneer l[i] (hw _ (List.getElem_mem hi)) hu1 hu2
  refine ⟨v,v2,v3,?_⟩
  unfold laws_szVeneerS_l5
  simp only
  rw [if_pos (by omega),rd_lt hi,Option.bind_some,v1,Option.bind_some]
 ·unfold laws_szVeneerS_l5
  simp only
  rw [if_neg (by omega)]
 ·rcases hr with rfl | ⟨v,rfl,g1,g2,g3⟩
  ·exact Ev.ret ⟨by omega,.inl (by omega)⟩
  ·exact Ev.ret ⟨by omega,.inr ⟨by omega,g3⟩⟩
theorem vd_toVeneerS (l:(List S_Veneer)) (h:(l.length≤1048576∧∀a∈l,bd_S_Veneer a)):laws_toVeneerS l=some l:=by
 have hl:=h.1
 unfold laws_toVeneerS mkl
 rw [if_pos (by constructor<;>omega),Option.bind_some]
 rw [copyS (f:=laws_toVeneerS_l3 l) l _ (by simp) (by omega) ?_ ?_]
 ·rfl
 ·intro i hi out ho
  unfold laws_toVeneerS_l3
  simp only
  rw [if_pos (by omega),rd_lt hi,Option.bind_some,vd_toVeneer l[i] (h.2 _ (List.getElem_mem hi)),Option.bind_some,rd_lt (by omega:i<out.length),Option.bind_some]
  simp
 ·intro out
  unfold laws_toVeneerS_l3
  simp
theorem vd_eqVeneerS (l:(List S_Veneer)) (h:(l.length≤1048576∧∀a∈l,bd_S_Veneer a)):laws_eqVeneerS l l=some true:=by
 have hl:=h.1
 unfold laws_eqVeneerS
 rw [if_neg (by simp),eqS_refl (n:=l.length) (by omega) ?_ ?_]
 ·rfl
 ·intro i hi
  unfold laws_eqVeneerS_l4
  rw [if_pos (by omega),rd_lt hi]
  simp only [Option.bind_some]
  rw [vd_eqVeneer l[i] (h.2 _ (List.getElem_mem hi))]
  rfl
 ·unfold laws_eqVeneerS_l4
  rw [if_neg (by omega)]
def wf_S_Picture (x:S_Picture):Prop:=wf_S_Drawing x.Drawing∧((∀a∈x.Veneers,wf_S_Veneer a)∧x.Veneers.length≤maxLen)
def bd_S_Picture (x:S_Picture):Prop:=bd_S_Drawing x.Drawing∧(x.Veneers.length≤1048576∧∀a∈x.Veneers,bd_S_Veneer a)
theorem vd_szPicture (x:S_Picture) (h:wf_S_Picture x) {left:Int} (h0:0≤left) (h1:left≤1048576):Ev (laws_szPicture x left) (fun v=>v≤left∧(v<0∨bd_S_Picture x)):=by
 obtain ⟨w0,w1⟩:=h
 unfold laws_szPicture
 refine Ev.bind (vd_szDrawing x.Drawing w0 (left:=left) (by omega) (by omega)) fun v0 q0=>?_
 refine Ev.ite (fun _=>Ev.ret ⟨by omega,.inl (by omega)⟩) fun c0=>?_
 refine Ev.bind (vd_szVeneerS x.Veneers w1 (left:=v0) (by omega) (by omega)) fun v1 q1=>?_
 refine Ev.ite (fun _=>Ev.ret ⟨by omega,.inl (by omega)⟩) fun c1=>?_
 exact Ev.ret ⟨by omega,.inr ⟨q0.2.resolve_left c0,q1.2.resolve_left c1⟩⟩
theorem vd_toPicture (x:S_Picture) (h:bd_S_Picture x):laws_toPicture x=some x:=by
 unfold laws_toPicture
 rw [vd_toDrawing x.Drawing h.1,Option.bind_some,vd_toVeneerS x.Veneers h.2,Option.bind_some]
theorem vd_eqPicture (x:S_Picture) (h:bd_S_Picture x):laws_eqPicture x x=some true:=by
 unfold laws_eqPicture
 simp [vd_eqDrawing x.Drawing (h.1),vd_eqVeneerS x.Veneers (h.2)]
def wf_S_Box (x:S_Box):Prop:=(Lit.int .i64 x.X).wf=true∧(Lit.int .i64 x.Y).wf=true∧(Lit.int .i64 x.Width).wf=true∧(Lit.int .i64 x.Length).wf=true
def bd_S_Box (x:S_Box):Prop:=True∧True∧True∧True
theorem vd_toBox (x:S_Box) (h:bd_S_Box x):laws_toBox x=some x:=by
 unfold laws_toBox
 rfl
theorem vd_eqBox (x:S_Box) (h:bd_S_Box x):laws_eqBox x x=some true:=by
 unfold laws_eqBox
 simp []
theorem vd_szBoxS (l:(List S_Box)) (h:((∀a∈l,wf_S_Box a)∧l.length≤maxLen)) {left:Int} (h0:0≤left) (h1:left≤1048576):Ev (laws_szBoxS l left) (fun v=>v≤left∧(v<0∨(l.length≤1048576∧∀a∈l,bd_S_Box a))):=by
 obtain ⟨hw,hl⟩:=h
 rw [maxLen_eq] at hl
 unfold laws_szBoxS
 rw [w64_id (n:=left - (l.length:Int)) (by omega) (by omega)]
 refine Ev.ite (fun _=>Ev.ret ⟨by omega,.inl (by omega)⟩) fun c=>?_
 exact Ev.ret ⟨by omega,.inr ⟨by omega,fun a _=>⟨trivial,trivial,trivial,trivial⟩⟩⟩
theorem vd_toBoxS (l:(List S_Box)) (h:(l.length≤1048576∧∀a∈l,bd_S_Box a)):laws_toBoxS l=some l:=by
 have hl:=h.1
 unfold laws_toBoxS mkl
 rw [if_pos (by constructor<;>omega),Option.bind_some]
 rw [copyS (f:=laws_toBoxS_l3 l) l _ (by simp) (by omega) ?_ ?_]
 ·rfl
 ·intro i hi out ho
  unfold laws_toBoxS_l3
  simp only
  rw [if_pos (by omega),rd_lt hi,Option.bind_some,vd_toBox l[i] (h.2 _ (List.getElem_mem hi)),Option.bind_some,rd_lt (by omega:i<out.length),Option.bind_some]
  simp
 ·intro out
  unfold laws_toBoxS_l3
  simp
theorem vd_eqBoxS (l:(List S_Box)) (h:(l.length≤1048576∧∀a∈l,bd_S_Box a)):laws_eqBoxS l l=some true:=by
 have hl:=h.1
 unfold laws_eqBoxS
 rw [if_neg (by simp),eqS_refl (n:=l.length) (by omega) ?_ ?_]
 ·rfl
 ·intro i hi
  unfold laws_eqBoxS_l4
  rw [if_pos (by omega),rd_lt hi]
  simp only [Option.bind_some]
  rw [vd_eqBox l[i] (h.2 _ (List.getElem_mem hi))]
  rfl
 ·unfold laws_eqBoxS_l4
  rw [if_neg (by omega)]
def wf_S_Leaf (x:S_Leaf):Prop:=x.Id.size≤maxLen∧x.Flitch.size≤maxLen∧(Lit.int .i64 x.Number).wf=true∧wf_S_Veneer x.Veneer∧(Lit.int .i64 x.Width).wf=true∧(Lit.int .i64 x.Length).wf=true∧((∀a∈x.Defects,wf_S_Box a)∧x.Defects.length≤maxLen)
def bd_S_Leaf (x:S_Leaf):Prop:=x.Id.size≤1048576∧x.Flitch.size≤1048576∧True∧bd_S_Veneer x.Veneer∧True∧True∧(x.Defects.length≤1048576∧∀a∈x.Defects,bd_S_Box a)
theorem vd_szLeaf (x:S_Leaf) (h:wf_S_Leaf x) {left:Int} (h0:0≤left) (h1:left≤1048576):Ev (laws_szLeaf x left) (fun v=>v≤left∧(v<0∨bd_S_Leaf x)):=by
 obtain ⟨w0,w1,w2,w3,w4,w5,w6⟩:=h
 unfold laws_szLeaf
 rw [maxLen_eq] at w0
 rw [w64_id (n:=left - (x.Id.size:Int)) (by omega) (by omega)]
 refine Ev.ite (fun _=>Ev.ret ⟨by omega,.inl (by omega)⟩) fun c0=>?_
 rw [maxLen_eq] at w1
 rw [w64_id (n:=left - (x.Id.size:Int) - (x.Flitch.size:Int)) (by omega) (by omega)]
 refine Ev.ite (fun _=>Ev.ret ⟨by omega,.inl (by omega)⟩) fun c1=>?_
 refine Ev.bind (vd_szVeneer x.Veneer w3 (left:=left - (x.Id.size:Int) - (x.Flitch.size:Int)) (by omega) (by omega)) fun v3 q3=>?_
 refine Ev.ite (fun _=>Ev.ret ⟨by omega,.inl (by omega)⟩) fun c3=>?_
 refine Ev.bind (vd_szBoxS x.Defects w6 (left:=v3) (by omega) (by omega)) fun v6 q6=>?_
 refine Ev.ite (fun _=>Ev.ret ⟨by omega,.inl (by omega)⟩) fun c6=>?_
 exact Ev.ret ⟨by omega,.inr ⟨by omega,by omega,trivial,q3.2.resolve_left c3,trivial,trivial,q6.2.resolve_left c6⟩⟩
theorem vd_toLeaf (x:S_Leaf) (h:bd_S_Leaf x):laws_toLeaf x=some x:=by
 unfold laws_toLeaf
 rw [vd_toVeneer x.Veneer h.2.2.2.1,Option.bind_some,vd_toBoxS x.Defects h.2.2.2.2.2.2,Option.bind_some]
theorem vd_eqLeaf (x:S_Leaf) (h:bd_S_Leaf x):laws_eqLeaf x x=some true:=by
 unfold laws_eqLeaf
 simp [vd_eqVeneer x.Veneer (h.2.2.2.1),vd_eqBoxS x.Defects (h.2.2.2.2.2.2)]
theorem vd_szLeafS (l:(List S_Leaf)) (h:((∀a∈l,wf_S_Leaf a)∧l.length≤maxLen)) {left:Int} (h0:0≤left) (h1:left≤1048576):Ev (laws_szLeafS l left) (fun v=>v≤left∧(v<0∨(l.length≤1048576∧∀a∈l,bd_S_Leaf a))):=by
 obtain ⟨hw,hl⟩:=h
 rw [maxLen_eq] at hl
 unfold laws_szLeafS
 rw [w64_id (n:=left - (l.length:Int)) (by omega) (by omega)]
 refine Ev.ite (fun _=>Ev.ret ⟨by omega,.inl (by omega)⟩) fun c=>?_
 refine Ev.bind (vd_szN (f:=laws_szLeafS_l5 l) l (fun a=>bd_S_Leaf a) (by omega) (fun i hi u hu1 hu2=>?_) (fun u=>?_) (left:=left - (l.length:Int)) (by omega) (by omega)) fun r hr=>?_
 ·
  obtain ⟨v,v1,v2,v3⟩:=vd_szLeaf l[i] (hw _ (List.getElem_mem hi)) hu1 hu2
  refine ⟨v,v2,v3,?_⟩
  unfold laws_szLeafS_l5
  simp only
  rw [if_pos (by omega),rd_lt hi,Option.bind_some,v1,Option.bind_some]
 ·unfold laws_szLeafS_l5
  simp only
  rw [if_neg (by omega)]
 ·rcases hr with rfl | ⟨v,rfl,g1,g2,g3⟩
  ·exact Ev.ret ⟨by omega,.inl (by omega)⟩
  ·exact Ev.ret ⟨by omega,.inr ⟨by omega,g3⟩⟩
theorem vd_toLeafS (l:(List S_Leaf)) (h:(l.length≤1048576∧∀a∈l,bd_S_Leaf a)):laws_toLeafS l=some l:=by
 have hl:=h.1
 unfold laws_toLeafS mkl
 rw [if_pos (by constructor<;>omega),Option.bind_some]
 rw [copyS (f:=laws_toLeafS_l3 l) l _ (by simp) (by omega) ?_ ?_]
 ·rfl
 ·intro i hi out ho
  unfold laws_toLeafS_l3
  simp only
  rw [if_pos (by omega),rd_lt hi,Option.bind_some,vd_toLeaf l[i] (h.2 _ (List.getElem_mem hi)),Option.bind_some,rd_lt (by omega:i<out.length),Option.bind_some]
  simp
 ·intro out
  unfold laws_toLeafS_l3
  simp
theorem vd_eqLeafS (l:(List S_Leaf)) (h:(l.length≤1048576∧∀a∈l,bd_S_Leaf a)):laws_eqLeafS l l=some true:=by
 have hl:=h.1
 unfold laws_eqLeafS
 rw [if_neg (by simp),eqS_refl (n:=l.length) (by omega) ?_ ?_]
 ·rfl
 ·intro i hi
  unfold laws_eqLeafS_l4
  rw [if_pos (by omega),rd_lt hi]
  simp only [Option.bind_some]
  rw [vd_eqLeaf l[i] (h.2 _ (List.getElem_mem hi))]
  rfl
 ·unfold laws_eqLeafS_l4
  rw [if_neg (by omega)]
def wf_S_Placement (x:S_Placement):Prop:=(Lit.int .i64 x.Face).wf=true∧(Lit.int .i64 x.Leaf).wf=true∧(Lit.int .i64 x.X).wf=true∧(Lit.int .i64 x.Y).wf=true∧(Lit.int .i64 x.Turn).wf=true
def bd_S_Placement (x:S_Placement):Prop:=True∧True∧True∧True∧True
theorem vd_toPlacement (x:S_Placement) (h:bd_S_Placement x):laws_toPlacement x=some x:=by
 unfold laws_toPlacement
 rfl
theorem vd_eqPlacement (x:S_Placement) (h:bd_S_Placement x):laws_eqPlacement x x=some true:=by
 unfold laws_eqPlacement
 simp []
theorem vd_szPlacementS (l:(List S_Placement)) (h:((∀a∈l,wf_S_Placement a)∧l.length≤maxLen)) {left:Int} (h0:0≤left) (h1:left≤1048576):Ev (laws_szPlacementS l left) (fun v=>v≤left∧(v<0∨(l.length≤1048576∧∀a∈l,bd_S_Placement a))):=by
 obtain ⟨hw,hl⟩:=h
 rw [maxLen_eq] at hl
 unfold laws_szPlacementS
 rw [w64_id (n:=left - (l.length:Int)) (by omega) (by omega)]
 refine Ev.ite (fun _=>Ev.ret ⟨by omega,.inl (by omega)⟩) fun c=>?_
 exact Ev.ret ⟨by omega,.inr ⟨by omega,fun a _=>⟨trivial,trivial,trivial,trivial,trivial⟩⟩⟩
theorem vd_toPlacementS (l:(List S_Placement)) (h:(l.length≤1048576∧∀a∈l,bd_S_Placement a)):laws_toPlacementS l=some l:=by
 have hl:=h.1
 unfold laws_toPlacementS mkl
 rw [if_pos (by constructor<;>omega),Option.bind_some]
 rw [copyS (f:=laws_toPlacementS_l3 l) l _ (by simp) (by omega) ?_ ?_]
 ·rfl
 ·intro i hi out ho
  unfold laws_toPlacementS_l3
  simp only
  rw [if_pos (by omega),rd_lt hi,Option.bind_some,vd_toPlacement l[i] (h.2 _ (List.getElem_mem hi)),Option.bind_some,rd_lt (by omega:i<out.length),Option.bind_some]
  simp
 ·intro out
  unfold laws_toPlacementS_l3
  simp
theorem vd_eqPlacementS (l:(List S_Placement)) (h:(l.length≤1048576∧∀a∈l,bd_S_Placement a)):laws_eqPlacementS l l=some true:=by
 have hl:=h.1
 unfold laws_eqPlacementS
 rw [if_neg (by simp),eqS_refl (n:=l.length) (by omega) ?_ ?_]
 ·rfl
 ·intro i hi
  unfold laws_eqPlacementS_l4
  rw [if_pos (by omega),rd_lt hi]
  simp only [Option.bind_some]
  rw [vd_eqPlacement l[i] (h.2 _ (List.getElem_mem hi))]
  rfl
 ·unfold laws_eqPlacementS_l4
  rw [if_neg (by omega)]
def wf_S_Rules (x:S_Rules):Prop:=(Lit.int .i64 x.Spacing).wf=true∧(Lit.int .i64 x.Margin).wf=true∧(Lit.int .i64 x.Angle).wf=true∧(Lit.int .i64 x.Shade).wf=true
def bd_S_Rules (x:S_Rules):Prop:=True∧True∧True∧True
theorem vd_toRules (x:S_Rules) (h:bd_S_Rules x):laws_toRules x=some x:=by
 unfold laws_toRules
 rfl
theorem vd_eqRules (x:S_Rules) (h:bd_S_Rules x):laws_eqRules x x=some true:=by
 unfold laws_eqRules
 simp []
def wf_S_Job (x:S_Job):Prop:=wf_S_Picture x.Picture∧((∀a∈x.Leaves,wf_S_Leaf a)∧x.Leaves.length≤maxLen)∧((∀a∈x.Placements,wf_S_Placement a)∧x.Placements.length≤maxLen)∧wf_S_Rules x.Rules∧(Lit.int .i64 x.Thickness).wf=true∧(Lit.int .i64 x.Kerf).wf=true∧(Lit.int .i64 x.Bevel).wf=true∧(Lit.int .i64 x.Gap).wf=true∧((∀a∈x.Order,(Lit.int .i64 a).wf=true)∧x.Order.length≤maxLen)∧((∀a∈x.Cuts,(Lit.int .i64 a).wf=true)∧x.Cuts.length≤maxLen)
def bd_S_Job (x:S_Job):Prop:=bd_S_Picture x.Picture∧(x.Leaves.length≤1048576∧∀a∈x.Leaves,bd_S_Leaf a)∧(x.Placements.length≤1048576∧∀a∈x.Placements,bd_S_Placement a)∧bd_S_Rules x.Rules∧True∧True∧True∧True∧(x.Order.length≤1048576∧∀a∈x.Order,True)∧(x.Cuts.length≤1048576∧∀a∈x.Cuts,True)
theorem vd_szJob (x:S_Job) (h:wf_S_Job x) {left:Int} (h0:0≤left) (h1:left≤1048576):Ev (laws_szJob x left) (fun v=>v≤left∧(v<0∨bd_S_Job x)):=by
 obtain ⟨w0,w1,w2,w3,w4,w5,w6,w7,w8,w9⟩:=h
 unfold laws_szJob
 refine Ev.bind (vd_szPicture x.Picture w0 (left:=left) (by omega) (by omega)) fun v0 q0=>?_
 refine Ev.ite (fun _=>Ev.ret ⟨by omega,.inl (by omega)⟩) fun c0=>?_
 refine Ev.bind (vd_szLeafS x.Leaves w1 (left:=v0) (by omega) (by omega)) fun v1 q1=>?_
 refine Ev.ite (fun _=>Ev.ret ⟨by omega,.inl (by omega)⟩) fun c1=>?_
 refine Ev.bind (vd_szPlacementS x.Placements w2 (left:=v1) (by omega) (by omega)) fun v2 q2=>?_
 refine Ev.ite (fun _=>Ev.ret ⟨by omega,.inl (by omega)⟩) fun c2=>?_
 refine Ev.bind (vd_szInt64S x.Order w8 (left:=v2) (by omega) (by omega)) fun v8 q8=>?_
 refine Ev.ite (fun _=>Ev.ret ⟨by omega,.inl (by omega)⟩) fun c8=>?_
 refine Ev.bind (vd_szInt64S x.Cuts w9 (left:=v8) (by omega) (by omega)) fun v9 q9=>?_
 refine Ev.ite (fun _=>Ev.ret ⟨by omega,.inl (by omega)⟩) fun c9=>?_
 exact Ev.ret ⟨by omega,.inr ⟨q0.2.resolve_left c0,q1.2.resolve_left c1,q2.2.resolve_left c2,⟨trivial,trivial,trivial,trivial⟩,trivial,trivial,trivial,trivial,q8.2.resolve_left c8,q9.2.resolve_left c9⟩⟩
theorem vd_toJob (x:S_Job) (h:bd_S_Job x):laws_toJob x=some x:=by
 unfold laws_toJob
 rw [vd_toPicture x.Picture h.1,Option.bind_some,vd_toLeafS x.Leaves h.2.1,Option.bind_some,vd_toPlacementS x.Placements h.2.2.1,Option.bind_some,vd_toRules x.Rules h.2.2.2.1,Option.bind_some,vd_toInt64S x.Order h.2.2.2.2.2.2.2.2.1,Option.bind_some,vd_toInt64S x.Cuts h.2.2.2.2.2.2.2.2.2,Option.bind_some]
theorem vd_eqJob (x:S_Job) (h:bd_S_Job x):laws_eqJob x x=some true:=by
 unfold laws_eqJob
 simp [vd_eqPicture x.Picture (h.1),vd_eqLeafS x.Leaves (h.2.1),vd_eqPlacementS x.Placements (h.2.2.1),vd_eqRules x.Rules (h.2.2.2.1),vd_eqInt64S x.Order (h.2.2.2.2.2.2.2.2.1),vd_eqInt64S x.Cuts (h.2.2.2.2.2.2.2.2.2)]
def wf_S_Bond (x:S_Bond):Prop:=x.Name.size≤maxLen∧(Lit.int .i64 x.Spread).wf=true∧(Lit.int .i64 x.Open).wf=true∧(Lit.int .i64 x.Press).wf=true
def bd_S_Bond (x:S_Bond):Prop:=x.Name.size≤1048576∧True∧True∧True
theorem vd_szBond (x:S_Bond) (h:wf_S_Bond x) {left:Int} (h0:0≤left) (h1:left≤1048576):Ev (laws_szBond x left) (fun v=>v≤left∧(v<0∨bd_S_Bond x)):=by
 obtain ⟨w0,w1,w2,w3⟩:=h
 unfold laws_szBond
 rw [maxLen_eq] at w0
 rw [w64_id (n:=left - (x.Name.size:Int)) (by omega) (by omega)]
 refine Ev.ite (fun _=>Ev.ret ⟨by omega,.inl (by omega)⟩) fun c0=>?_
 exact Ev.ret ⟨by omega,.inr ⟨by omega,trivial,trivial,trivial⟩⟩
theorem vd_toBond (x:S_Bond) (h:bd_S_Bond x):laws_toBond x=some x:=by
 unfold laws_toBond
 rfl
theorem vd_eqBond (x:S_Bond) (h:bd_S_Bond x):laws_eqBond x x=some true:=by
 unfold laws_eqBond
 simp []
theorem vd_szBondS (l:(List S_Bond)) (h:((∀a∈l,wf_S_Bond a)∧l.length≤maxLen)) {left:Int} (h0:0≤left) (h1:left≤1048576):Ev (laws_szBondS l left) (fun v=>v≤left∧(v<0∨(l.length≤1048576∧∀a∈l,bd_S_Bond a))):=by
 obtain ⟨hw,hl⟩:=h
 rw [maxLen_eq] at hl
 unfold laws_szBondS
 rw [w64_id (n:=left - (l.length:Int)) (by omega) (by omega)]
 refine Ev.ite (fun _=>Ev.ret ⟨by omega,.inl (by omega)⟩) fun c=>?_
 refine Ev.bind (vd_szN (f:=laws_szBondS_l5 l) l (fun a=>bd_S_Bond a) (by omega) (fun i hi u hu1 hu2=>?_) (fun u=>?_) (left:=left - (l.length:Int)) (by omega) (by omega)) fun r hr=>?_
 ·
  obtain ⟨v,v1,v2,v3⟩:=vd_szBond l[i] (hw _ (List.getElem_mem hi)) hu1 hu2
  refine ⟨v,v2,v3,?_⟩
  unfold laws_szBondS_l5
  simp only
  rw [if_pos (by omega),rd_lt hi,Option.bind_some,v1,Option.bind_some]
 ·unfold laws_szBondS_l5
  simp only
  rw [if_neg (by omega)]
 ·rcases hr with rfl | ⟨v,rfl,g1,g2,g3⟩
  ·exact Ev.ret ⟨by omega,.inl (by omega)⟩
  ·exact Ev.ret ⟨by omega,.inr ⟨by omega,g3⟩⟩
theorem vd_toBondS (l:(List S_Bond)) (h:(l.length≤1048576∧∀a∈l,bd_S_Bond a)):laws_toBondS l=some l:=by
 have hl:=h.1
 unfold laws_toBondS mkl
 rw [if_pos (by constructor<;>omega),Option.bind_some]
 rw [copyS (f:=laws_toBondS_l3 l) l _ (by simp) (by omega) ?_ ?_]
 ·rfl
 ·intro i hi out ho
  unfold laws_toBondS_l3
  simp only
  rw [if_pos (by omega),rd_lt hi,Option.bind_some,vd_toBond l[i] (h.2 _ (List.getElem_mem hi)),Option.bind_some,rd_lt (by omega:i<out.length),Option.bind_some]
  simp
 ·intro out
  unfold laws_toBondS_l3
  simp
theorem vd_eqBondS (l:(List S_Bond)) (h:(l.length≤1048576∧∀a∈l,bd_S_Bond a)):laws_eqBondS l l=some true:=by
 have hl:=h.1
 unfold laws_eqBondS
 rw [if_neg (by simp),eqS_refl (n:=l.length) (by omega) ?_ ?_]
 ·rfl
 ·intro i hi
  unfold laws_eqBondS_l4
  rw [if_pos (by omega),rd_lt hi]
  simp only [Option.bind_some]
  rw [vd_eqBond l[i] (h.2 _ (List.getElem_mem hi))]
  rfl
 ·unfold laws_eqBondS_l4
  rw [if_neg (by omega)]
def wf_S_Coat (x:S_Coat):Prop:=x.Name.size≤maxLen∧(Lit.int .i64 x.Work).wf=true∧(Lit.int .i64 x.Dry).wf=true∧(Lit.int .i64 x.Wait).wf=true
def bd_S_Coat (x:S_Coat):Prop:=x.Name.size≤1048576∧True∧True∧True
theorem vd_szCoat (x:S_Coat) (h:wf_S_Coat x) {left:Int} (h0:0≤left) (h1:left≤1048576):Ev (laws_szCoat x left) (fun v=>v≤left∧(v<0∨bd_S_Coat x)):=by
 obtain ⟨w0,w1,w2,w3⟩:=h
 unfold laws_szCoat
 rw [maxLen_eq] at w0
 rw [w64_id (n:=left - (x.Name.size:Int)) (by omega) (by omega)]
 refine Ev.ite (fun _=>Ev.ret ⟨by omega,.inl (by omega)⟩) fun c0=>?_
 exact Ev.ret ⟨by omega,.inr ⟨by omega,trivial,trivial,trivial⟩⟩
theorem vd_toCoat (x:S_Coat) (h:bd_S_Coat x):laws_toCoat x=some x:=by
 unfold laws_toCoat
 rfl
theorem vd_eqCoat (x:S_Coat) (h:bd_S_Coat x):laws_eqCoat x x=some true:=by
 unfold laws_eqCoat
 simp []
theorem vd_szCoatS (l:(List S_Coat)) (h:((∀a∈l,wf_S_Coat a)∧l.length≤maxLen)) {left:Int} (h0:0≤left) (h1:left≤1048576):Ev (laws_szCoatS l left) (fun v=>v≤left∧(v<0∨(l.length≤1048576∧∀a∈l,bd_S_Coat a))):=by
 obtain ⟨hw,hl⟩:=h
 rw [maxLen_eq] at hl
 unfold laws_szCoatS
 rw [w64_id (n:=left - (l.length:Int)) (by omega) (by omega)]
 refine Ev.ite (fun _=>Ev.ret ⟨by omega,.inl (by omega)⟩) fun c=>?_
 refine Ev.bind (vd_szN (f:=laws_szCoatS_l5 l) l (fun a=>bd_S_Coat a) (by omega) (fun i hi u hu1 hu2=>?_) (fun u=>?_) (left:=left - (l.length:Int)) (by omega) (by omega)) fun r hr=>?_
 ·
  obtain ⟨v,v1,v2,v3⟩:=vd_szCoat l[i] (hw _ (List.getElem_mem hi)) hu1 hu2
  refine ⟨v,v2,v3,?_⟩
  unfold laws_szCoatS_l5
  simp only
  rw [if_pos (by omega),rd_lt hi,Option.bind_some,v1,Option.bind_some]
 ·unfold laws_szCoatS_l5
  simp only
  rw [if_neg (by omega)]
 ·rcases hr with rfl | ⟨v,rfl,g1,g2,g3⟩
  ·exact Ev.ret ⟨by omega,.inl (by omega)⟩
  ·exact Ev.ret ⟨by omega,.inr ⟨by omega,g3⟩⟩
theorem vd_toCoatS (l:(List S_Coat)) (h:(l.length≤1048576∧∀a∈l,bd_S_Coat a)):laws_toCoatS l=some l:=by
 have hl:=h.1
 unfold laws_toCoatS mkl
 rw [if_pos (by constructor<;>omega),Option.bind_some]
 rw [copyS (f:=laws_toCoatS_l3 l) l _ (by simp) (by omega) ?_ ?_]
 ·rfl
 ·intro i hi out ho
  unfold laws_toCoatS_l3
  simp only
  rw [if_pos (by omega),rd_lt hi,Option.bind_some,vd_toCoat l[i] (h.2 _ (List.getElem_mem hi)),Option.bind_some,rd_lt (by omega:i<out.length),Option.bind_some]
  simp
 ·intro out
  unfold laws_toCoatS_l3
  simp
theorem vd_eqCoatS (l:(List S_Coat)) (h:(l.length≤1048576∧∀a∈l,bd_S_Coat a)):laws_eqCoatS l l=some true:=by
 have hl:=h.1
 unfold laws_eqCoatS
 rw [if_neg (by simp),eqS_refl (n:=l.length) (by omega) ?_ ?_]
 ·rfl
 ·intro i hi
  unfold laws_eqCoatS_l4
  rw [if_pos (by omega),rd_lt hi]
  simp only [Option.bind_some]
  rw [vd_eqCoat l[i] (h.2 _ (List.getElem_mem hi))]
  rfl
 ·unfold laws_eqCoatS_l4
  rw [if_neg (by omega)]
def wf_S_Rates (x:S_Rates):Prop:=(Lit.int .i64 x.Hour).wf=true∧(Lit.int .i64 x.Edge).wf=true∧(Lit.int .i64 x.Face).wf=true∧(Lit.int .i64 x.Waste).wf=true∧(Lit.int .i64 x.Margin).wf=true
def bd_S_Rates (x:S_Rates):Prop:=True∧True∧True∧True∧True
theorem vd_toRates (x:S_Rates) (h:bd_S_Rates x):laws_toRates x=some x:=by
 unfold laws_toRates
 rfl
theorem vd_eqRates (x:S_Rates) (h:bd_S_Rates x):laws_eqRates x x=some true:=by
 unfold laws_eqRates
 simp []
def wf_S_Desk (x:S_Desk):Prop:=wf_S_Job x.Job∧((∀a∈x.Bonds,wf_S_Bond a)∧x.Bonds.length≤maxLen)∧((∀a∈x.Coats,wf_S_Coat a)∧x.Coats.length≤maxLen)∧wf_S_Rates x.Rates
def bd_S_Desk (x:S_Desk):Prop:=bd_S_Job x.Job∧(x.Bonds.length≤1048576∧∀a∈x.Bonds,bd_S_Bond a)∧(x.Coats.length≤1048576∧∀a∈x.Coats,bd_S_Coat a)∧bd_S_Rates x.Rates
theorem vd_szDesk (x:S_Desk) (h:wf_S_Desk x) {left:Int} (h0:0≤left) (h1:left≤1048576):Ev (laws_szDesk x left) (fun v=>v≤left∧(v<0∨bd_S_Desk x)):=by
 obtain ⟨w0,w1,w2,w3⟩:=h
 unfold laws_szDesk
 refine Ev.bind (vd_szJob x.Job w0 (left:=left) (by omega) (by omega)) fun v0 q0=>?_
 refine Ev.ite (fun _=>Ev.ret ⟨by omega,.inl (by omega)⟩) fun c0=>?_
 refine Ev.bind (vd_szBondS x.Bonds w1 (left:=v0) (by omega) (by omega)) fun v1 q1=>?_
 refine Ev.ite (fun _=>Ev.ret ⟨by omega,.inl (by omega)⟩) fun c1=>?_
 refine Ev.bind (vd_szCoatS x.Coats w2 (left:=v1) (by omega) (by omega)) fun v2 q2=>?_
 refine Ev.ite (fun _=>Ev.ret ⟨by omega,.inl (by omega)⟩) fun c2=>?_
 exact Ev.ret ⟨by omega,.inr ⟨q0.2.resolve_left c0,q1.2.resolve_left c1,q2.2.resolve_left c2,⟨trivial,trivial,trivial,trivial,trivial⟩⟩⟩
theorem vd_toDesk (x:S_Desk) (h:bd_S_Desk x):laws_toDesk x=some x:=by
 unfold laws_toDesk
 rw [vd_toJob x.Job h.1,Option.bind_some,vd_toBondS x.Bonds h.2.1,Option.bind_some,vd_toCoatS x.Coats h.2.2.1,Option.bind_some,vd_toRates x.Rates h.2.2.2,Option.bind_some]
theorem vd_eqDesk (x:S_Desk) (h:bd_S_Desk x):laws_eqDesk x x=some true:=by
 unfold laws_eqDesk
 simp [vd_eqJob x.Job (h.1),vd_eqBondS x.Bonds (h.2.1),vd_eqCoatS x.Coats (h.2.2.1),vd_eqRates x.Rates (h.2.2.2)]
theorem within_eq (n a b:Int):impl_within n a b=some (decide (a≤n∧n≤b)):=by
 unfold impl_within
 rw [Bool.decide_and]
theorem in_eq (n a b:Int):spec_l00In n a b=some (decide (a≤n∧n≤b)):=by
 unfold spec_l00In
 rw [Bool.decide_and]
theorem name_step (s:ByteArray) (i:Int):impl_IsName_l4 s i=spec_l01Name_l4 s i:=by
 unfold impl_IsName_l4 spec_l01Name_l4
 by_cases c:i< (s.size:Int)
 ·rw [if_pos c,if_pos c]
  cases bt s i with
  | none=>rfl
  | some x=>
   have d1:decide (x≥97)=!decide (x<97):=by rw [←decide_not];exact decide_eq_decide.2 (by omega)
   have d2:decide (x≤122)=!decide (x>122):=by rw [←decide_not];exact decide_eq_decide.2 (by omega)
   have d3:decide (x≥48)=!decide (x<48):=by rw [←decide_not];exact decide_eq_decide.2 (by omega)
   have d4:decide (x≤57)=!decide (x>57):=by rw [←decide_not];exact decide_eq_decide.2 (by omega)
   simp only [Option.bind_some,spec_l01Small,spec_l01Digit,d1,d2,d3,d4]
   by_cases c1:x<97<;>by_cases c2:x>122<;>by_cases c3:x<48<;>by_cases c4:x>57<;>simp [c1,c2,c3,c4]
 ·rw [if_neg c,if_neg c]
theorem name_eq (s:ByteArray):∃v,spec_l01Name s=some v∧impl_IsName s=some v:=by
 unfold spec_l01Name impl_IsName
 by_cases c0:s.size=0
 ·have hs:=size_zero c0
  refine ⟨false,?_,?_⟩
  ·rw [if_pos hs];rfl
  ·rw [if_pos (by omega)];rfl
 ·have hs:¬s=⟨#[]⟩:=fun h=>c0 (by rw [h];rfl)
  rw [if_neg hs,if_neg (show ¬((s.size:Int) <1) by omega)]
  by_cases c1:(s.size:Int) >10
  ·rw [if_pos c1,if_pos c1]
   exact ⟨false,rfl,rfl⟩
  ·rw [if_neg c1,if_neg c1]
   obtain ⟨b,hb,hb1,hb2⟩:=bt_some (s:=s) (i:=0) (by omega)
   have hb':bt s 0=some b:=hb
   rw [hb']
   have hloop:∃o,loopO (spec_l01Name_l4 s) 0=some o:=by
    refine scanEnds s.size (by omega) (fun i hi=>?_) ⟨.inl (),?_⟩
    ·obtain ⟨x,hx,_⟩:=bt_some (s:=s) hi
     unfold spec_l01Name_l4
     rw [if_pos (by omega),hx]
     simp only [Option.bind_some,spec_l01Small,spec_l01Digit]
     split
     ·simp
     ·simp only [Option.bind_some]
      split
      ·exact .inr ⟨_,rfl⟩
      ·exact .inl rfl
    ·unfold spec_l01Name_l4
     rw [if_neg (by omega)]
   obtain ⟨o,ho⟩:=hloop
   have ho2:loopO (impl_IsName_l4 s) 0=some o:=by rw [loopO_congr (name_step s)];exact ho
   rw [ho,ho2]
   have e:(if b<97 then some true else some (decide (b>122)))=some (!(decide (b≥97)&&decide (b≤122))):=by
    have d1:decide (b≥97)=!decide (b<97):=by rw [←decide_not];exact decide_eq_decide.2 (by omega)
    have d2:decide (b≤122)=!decide (b>122):=by rw [←decide_not];exact decide_eq_decide.2 (by omega)
    rw [d1,d2]
    by_cases c2:b<97<;>by_cases c3:b>122<;>simp [c2,c3]
   simp only [Option.bind_some,spec_l01Small]
   rw [e]
   simp only [Option.bind_some]
   split
   ·exact ⟨false,rfl,rfl⟩
   ·cases o with
    | inl u=>exact ⟨true,rfl,rfl⟩
    | inr r=>exact ⟨r,rfl,rfl⟩
theorem vin (n a b:Int):spec_l00In n a b=impl_within n a b:=rfl
theorem vside (a b c:S_Point):spec_l02Side a b c=impl_side a b c:=by
 unfold spec_l02Side spec_l02Cross impl_side
 simp only [Option.bind_some]
theorem vmin (a b:Int):spec_l00Min a b=some (min2 a b):=by
 unfold spec_l00Min min2
 split<;>split<;>first | rfl | (congr 1;omega)
theorem vmax (a b:Int):spec_l00Max a b=some (max2 a b):=by
 unfold spec_l00Max max2
 split<;>split<;>first | rfl | (congr 1;omega)
theorem von (a b p:S_Point):spec_l02On a b p=impl_on a b p:=by
 unfold spec_l02On impl_on
 simp only [vside,vmin,vmax,vin,Option.bind_some]
theorem vcross (a b c d:S_Point):spec_l02Crosses a b c d=impl_crossing a b c d:=by
 unfold spec_l02Crosses impl_crossing
 simp only [vside]
theorem vmeet (a b c d:S_Point):spec_l03Meet a b c d=impl_touching a b c d:=by
 unfold spec_l03Meet impl_touching
 simp only [vcross,von]
theorem side_tot (a b c:S_Point):∃v,impl_side a b c=some v:=by
 unfold impl_side
 split
 ·exact ⟨_,rfl⟩
 ·split<;>exact ⟨_,rfl⟩
theorem on_tot (a b c:S_Point):∃v,impl_on a b c=some v:=by
 obtain ⟨x,hx⟩:=side_tot a b c
 unfold impl_on impl_within
 rw [hx]
 simp only [Option.bind_some]
 split
 ·split<;>exact ⟨_,rfl⟩
 ·exact ⟨_,rfl⟩
theorem cross_tot (a b c d:S_Point):∃v,impl_crossing a b c d=some v:=by
 obtain ⟨x,hx⟩:=side_tot a b c
 obtain ⟨y,hy⟩:=side_tot a b d
 obtain ⟨z,hz⟩:=side_tot c d a
 obtain ⟨w,hw⟩:=side_tot c d b
 unfold impl_crossing
 rw [hx,hy,hz,hw]
 simp only [Option.bind_some]
 split<;>exact ⟨_,rfl⟩
theorem touch_tot (a b c d:S_Point):∃v,impl_touching a b c d=some v:=by
 obtain ⟨x,hx⟩:=cross_tot a b c d
 obtain ⟨y,hy⟩:=on_tot a b c
 obtain ⟨z,hz⟩:=on_tot a b d
 obtain ⟨w,hw⟩:=on_tot c d a
 obtain ⟨u,hu⟩:=on_tot c d b
 unfold impl_touching
 rw [hx,hy,hz,hw,hu]
 simp only [Option.bind_some]
 cases x<;>cases y<;>cases z<;>cases w<;>exact ⟨_,rfl⟩
theorem md_nat {k n:Nat} (hn:0<n):md (k:Int) (n:Int)=some ((k % n:Nat):Int):=by
 unfold md
 rw [if_neg (by omega),Int.tmod_eq_emod_of_nonneg (by omega)]
 rfl
theorem rd_mod {α:Type} {p:List α} {k:Nat} (hp:0<p.length):∃x,rd p ((k % p.length:Nat):Int)=some x:=⟨_,rd_lt (Nat.mod_lt _ hp)⟩
theorem varea (p:List S_Point):spec_l03Area p=impl_doubled p:=by
 unfold spec_l03Area impl_doubled
 congr 1
 refine loopO_congr (fun s=>?_) _
 obtain ⟨a,i⟩:=s
 unfold spec_l03Area_l3 impl_doubled_l3
 simp only
 split
 ·cases h1:rd p i<;>cases h2:md (w64 (i+1)) (p.length:Int)<;>simp only [Option.bind_some,Option.bind_none]
  rename_i x y
  cases rd p y<;>rfl
 ·rfl
theorem area_tot (p:List S_Point) (hp:p.length≤1048576):∃v,impl_doubled p=some v:=by
 have:Ev (loopO (impl_doubled_l3 p) (0,0)) (fun _=>True):=by
  refine Ev.loop (fun s:Int×Int=>0≤s.2∧s.2≤(p.length:Int)) (fun s:Int×Int=>((p.length:Int) - s.2).toNat) ?_ ⟨Int.le_refl _,by simp only;omega⟩
  rintro ⟨a,i⟩ ⟨i0,i1⟩
  unfold impl_doubled_l3
  simp only at i0 i1 ⊢
  refine Ev.ite (fun hc=>?_) fun _=>Ev.ret trivial
  obtain ⟨j,rfl⟩:∃j:Nat,i=(j:Int):=⟨i.toNat,by omega⟩
  refine Ev.bind (Ev.rd i0 hc) fun x _=>?_
  rw [w64_succ (by omega),md_nat (by omega)]
  obtain ⟨y,hy⟩:=rd_mod (p:=p) (k:=j+1) (by omega)
  simp only [Option.bind_some,hy]
  exact Ev.ret ⟨⟨by simp only;omega,by simp only;omega⟩,by simp only;omega⟩
 obtain ⟨v,hv,_⟩:=this
 unfold impl_doubled
 rw [hv]
 exact ⟨_,rfl⟩
theorem pt_tot (p:S_Point):∃v,impl_ValidPoint p=some v:=by
 unfold impl_ValidPoint impl_within
 simp only [Option.bind_some]
 split<;>exact ⟨_,rfl⟩
theorem pts_ok (p:List S_Point) (hp:p.length≤1048576):loopO (impl_validPoints_l2 p) 0=some (.inl ())∨loopO (impl_validPoints_l2 p) 0=some (.inr false):=by
 rcases validL (f:=impl_validPoints_l2 p) p (fun _=>True) (by omega) (fun i hi=>by
  unfold impl_validPoints_l2
  rw [if_pos (by omega),rd_lt hi,Option.bind_some]
  obtain ⟨v,hv⟩:=pt_tot p[i]
  rw [hv,Option.bind_some]
  cases v
  ·exact .inr rfl
  ·exact .inl ⟨rfl,trivial⟩) (by unfold impl_validPoints_l2;rw [if_neg (by omega)]) with ⟨h,_⟩ | h
 ·exact .inl h
 ·exact .inr h
theorem vedge (p:List S_Point) (i:Int) (x y:S_Point):spec_l03Ok_l18 i p x y=impl_ValidPolygon_l11 p i x y:=by
 funext k
 unfold spec_l03Ok_l18 impl_ValidPolygon_l11
 simp only [vmeet]
theorem vcorner (p:List S_Point):spec_l03Ok_l10 p=impl_ValidPolygon_l5 p:=by
 funext i
 unfold spec_l03Ok_l10 impl_ValidPolygon_l5
 simp only [von,vedge]
theorem vpts (p:List S_Point):spec_l03Ok_l5 p=impl_validPoints_l2 p:=rfl
theorem edge_tot (p:List S_Point) (hp:p.length≤1048576) (i:Int) (x y:S_Point) {k:Int} (hk:0≤k):∃o,loopO (impl_ValidPolygon_l11 p i x y) k=some o:=by
 have:Ev (loopO (impl_ValidPolygon_l11 p i x y) k) (fun _=>True):=by
  refine Ev.loop (fun s=>0≤s) (fun s=>((p.length:Int) - s).toNat) ?_ hk
  intro s h0
  unfold impl_ValidPolygon_l11
  refine Ev.ite (fun hc=>?_) fun _=>Ev.ret trivial
  obtain ⟨j,rfl⟩:∃j:Nat,s=(j:Int):=⟨s.toNat,by omega⟩
  rw [w64_succ (by omega),md_nat (by omega)]
  obtain ⟨y2,hy⟩:=rd_mod (p:=p) (k:=j+1) (by omega)
  simp only [Option.bind_some,hy,rd_lt (show j<p.length by omega)]
  obtain ⟨v,hv⟩:=touch_tot x y p[j] y2
  rw [hv]
  simp only [Option.bind_some]
  refine Ev.bind (P:=fun _=>True) (Ev.ite (fun _=>Ev.ret trivial) fun _=>Ev.ret trivial) fun t _=>?_
  exact Ev.ite (fun _=>Ev.ret trivial) fun _=>Ev.ret ⟨by omega,by omega⟩
 obtain ⟨v,hv,_⟩:=this
 exact ⟨v,hv⟩
theorem corner_tot (p:List S_Point) (hp:p.length≤1048576):∃o,loopO (impl_ValidPolygon_l5 p) 0=some o:=by
 refine scanEnds p.length (by omega) (fun i hi=>?_) ⟨_,by unfold impl_ValidPolygon_l5;rw [if_neg (by omega)]⟩
 unfold impl_ValidPolygon_l5
 obtain ⟨y,hy⟩:=rd_mod (p:=p) (k:=i+1) (by omega)
 obtain ⟨z,hz⟩:=rd_mod (p:=p) (k:=i+2) (by omega)
 have e2:w64 ((i:Int)+2)=((i+2:Nat):Int):=by rw [w64_id (by omega) (by omega)];omega
 rw [if_pos (by omega),w64_succ (by omega),e2,md_nat (by omega),md_nat (by omega),rd_lt hi]
 simp only [Option.bind_some,hy,hz]
 obtain ⟨u,hu⟩:=on_tot p[i] y z
 obtain ⟨v,hv⟩:=on_tot y z p[i]
 obtain ⟨o,ho⟩:=edge_tot p hp (i:Int) p[i] y (k:=((i+2:Nat):Int)) (by omega)
 rw [hu,hv,ho]
 simp only [Option.bind_some]
 have fin:∀t:Bool,(if t=true then (some (.inr (.inr false)):Option (Int ⊕ (Unit ⊕ Bool))) else (match (generalizing:=false) o with | .inl _=>some (.inl ((i+1:Nat):Int)) | .inr r2=>some (.inr (.inr r2))))=some (.inl (((i+1:Nat):Int)))∨∃r,(if t=true then (some (.inr (.inr false)):Option (Int ⊕ (Unit ⊕ Bool))) else (match (generalizing:=false) o with | .inl _=>some (.inl ((i+1:Nat):Int)) | .inr r2=>some (.inr (.inr r2))))=some (.inr r):=by
  intro t
  cases t
  ·cases o
   ·exact .inl rfl
   ·exact .inr ⟨_,rfl⟩
  ·exact .inr ⟨_,rfl⟩
 split
 ·exact fin true
 ·cases u
  ·exact fin v
  ·exact fin true
theorem poly_ok (p:List S_Point) (hp:p.length≤1048576):∃v,spec_l03Ok p=some v∧impl_ValidPolygon p=some v:=by
 unfold spec_l03Ok impl_ValidPolygon impl_validPoints
 simp only [vpts,vcorner,varea]
 by_cases c1:(p.length:Int) <3
 ·rw [if_pos (.inl c1),if_pos c1]
  exact ⟨_,rfl,rfl⟩
 by_cases c2:(p.length:Int) >24
 ·rw [if_pos (.inr c2),if_neg c1,if_pos c2]
  exact ⟨_,rfl,rfl⟩
 rw [if_neg (fun h=>h.elim c1 c2),if_neg c1,if_neg c2]
 obtain ⟨o,ho⟩:=corner_tot p hp
 obtain ⟨a,ha⟩:=area_tot p hp
 rw [ho,ha]
 rcases pts_ok p hp with h | h<;>rw [h]
 ·cases o<;>exact ⟨_,rfl,rfl⟩
 ·exact ⟨_,rfl,rfl⟩
theorem two_loops {f g:Int→Option (Int ⊕ (Unit ⊕ Bool))} {n:Nat} (hn:n≤1048576)
 (h:∀i:Nat,i<n→∃w:Bool,f (i:Int)=(if w=true then some (.inl (((i+1:Nat):Int))) else some (.inr (.inr false)))∧g (i:Int)=(if w=true then some (.inl (((i+1:Nat):Int))) else some (.inr (.inr false))))
 (hf:f (n:Int)=some (.inr (.inl ()))) (hg:g (n:Int)=some (.inr (.inl ()))):∃o,loopO f 0=some o∧loopO g 0=some o∧(o= .inl ()∨o= .inr false):=by
 have key:∀(m i:Nat),i+m=n→∃o,loopO f (i:Int)=some o∧loopO g (i:Int)=some o∧(o= .inl ()∨o= .inr false):=by
  intro m
  induction m with
  | zero=>
   intro i hi
   obtain rfl:i=n:=by omega
   exact ⟨_,loopO_done hf,loopO_done hg,.inl rfl⟩
  | succ m ih=>
   intro i hi
   obtain ⟨w,w1,w2⟩:=h i (by omega)
   cases w with
   | true=>
    rw [if_pos rfl] at w1 w2
    rw [loopO_next w1,loopO_next w2]
    exact ih (i+1) (by omega)
   | false=>exact ⟨_,loopO_done w1,loopO_done w2,.inr rfl⟩
 exact key n 0 (by omega)
theorem vring (d:S_Drawing) (ring:List Int):spec_l05Ring d ring=impl_ringPolygon d.Points ring:=by
 unfold spec_l05Ring impl_ringPolygon
 congr 1
 refine loopO_congr (fun s=>?_) _
 obtain ⟨i,out⟩:=s
 unfold spec_l05Ring_l3 impl_ringPolygon_l3
 simp only [vin]
 split
 ·cases rd ring i with
  | none=>rfl
  | some x=>rfl
 ·rfl
theorem ring_ev (pts:List S_Point) (ring:List Int) (hp:pts.length≤1048576) (hr:ring.length≤1048576):Ev (impl_ringPolygon pts ring) (fun r=>r.1.length≤1048576):=by
 unfold impl_ringPolygon
 refine Ev.bind (P:=fun o=>match o with | .inl l=>l.length≤1048576 | .inr r=>r.1.length≤1048576) (Ev.loop (fun s:Int×List S_Point=>0≤s.1∧s.1≤(ring.length:Int)∧(s.2.length:Int)≤s.1) (fun s:Int×List S_Point=>((ring.length:Int) - s.1).toNat) ?_ ⟨Int.le_refl _,by simp only;omega,by simp⟩) fun o ho=>?_
 ·rintro ⟨i,out⟩ ⟨i0,i1,i2⟩
  unfold impl_ringPolygon_l3 impl_within
  simp only at i0 i1 i2 ⊢
  refine Ev.ite (fun hc=>?_) fun _=>Ev.ret (by simp only;omega)
  refine Ev.bind (Ev.rd i0 hc) fun x _=>?_
  simp only [Option.bind_some,Bool.and_eq_true,decide_eq_true_eq]
  refine Ev.ite (fun hx=>?_) fun _=>Ev.ret (by simp)
  have e:w64 ((pts.length:Int) - 1)=(pts.length:Int) - 1:=w64_id (by omega) (by omega)
  rw [e] at hx
  refine Ev.bind (Ev.rd hx.1 (by omega)) fun y _=>?_
  refine Ev.bind (Ev.apd (by simp;omega)) fun l hl=>?_
  subst hl
  rw [w64_id (n:=i+1) (by omega) (by omega)]
  exact Ev.ret ⟨⟨by simp only;omega,by simp only;omega,by simp only [List.length_append,List.length_singleton];omega⟩,by simp only;omega⟩
 ·cases o with
  | inl l=>exact Ev.ret ho
  | inr r=>exact Ev.ret ho
theorem vdup (d:S_Drawing) {i:Nat} (hi:i<d.Points.length) (hp:d.Points.length≤1048576):
 ∃b:Bool,loopO (spec_l05Points_l9 d (i:Int)) 0=some (if b=true then .inr false else .inl ())∧slices_Contains_impl_Point_impl_Point (d.Points.take i) d.Points[i]=some b:=by
 have hl:(d.Points.take i).length=i:=by rw [List.length_take];omega
 have e1:=scanFind (f:=spec_l05Points_l9 d (i:Int)) (d.Points.take i) (fun x=>decide (d.Points[i].X=x.X∧d.Points[i].Y=x.Y)) (fun _=>false) (by omega) (fun k hk=>by
  unfold spec_l05Points_l9
  rw [if_pos (by omega),rd_lt hi,Option.bind_some,rd_lt (show k<d.Points.length by omega),Option.bind_some,List.getElem_take]
  by_cases c:d.Points[i].X=(d.Points[k]'(by omega)).X∧d.Points[i].Y=(d.Points[k]'(by omega)).Y
  ·rw [if_pos c,if_pos (decide_eq_true c)]
  ·rw [if_neg c,if_neg (by simpa using c)]) (by unfold spec_l05Points_l9;rw [if_neg (by omega)])
 have e2:=scanFind (f:=slices_Index_impl_Point_impl_Point_l2 (d.Points.take i) d.Points[i]) (d.Points.take i) (fun x=>decide (d.Points[i].X=x.X∧d.Points[i].Y=x.Y)) (fun k=>(k:Int)) (by omega) (fun k hk=>by
  unfold slices_Index_impl_Point_impl_Point_l2
  rw [if_pos (by omega),rd_lt hk,Option.bind_some]
  by_cases c:d.Points[i].X=(d.Points.take i)[k].X∧d.Points[i].Y=(d.Points.take i)[k].Y
  ·rw [if_pos c,if_pos (decide_eq_true c)]
  ·rw [if_neg c,if_neg (by simpa using c)]) (by unfold slices_Index_impl_Point_impl_Point_l2;rw [if_neg (by omega)])
 unfold slices_Contains_impl_Point_impl_Point slices_Index_impl_Point_impl_Point
 rcases e1 with ⟨a1,a2⟩ | ⟨k,hk,a1,_,a2⟩<;>rcases e2 with ⟨b1,b2⟩ | ⟨m,hm,b1,_,b2⟩
 ·exact ⟨false,by rw [a2];rfl,by rw [b2];rfl⟩
 ·have:=a1 _ (List.getElem_mem hm)
  rw [b1] at this
  cases this
 ·have:=b1 _ (List.getElem_mem hk)
  rw [a1] at this
  cases this
 ·refine ⟨true,by rw [a2];rfl,?_⟩
  rw [b2]
  show some (decide ((m:Int)≥0))=_
  rw [decide_eq_true (by omega)]
theorem pts_step (d:S_Drawing) (hp:d.Points.length≤1048576) {i:Nat} (hi:i<d.Points.length):
 ∃w:Bool,spec_l05Points_l4 d (i:Int)=(if w=true then some (.inl (((i+1:Nat):Int))) else some (.inr (.inr false)))∧impl_ValidDrawing_l4 d (i:Int)=(if w=true then some (.inl (((i+1:Nat):Int))) else some (.inr (.inr false))):=by
 obtain ⟨b,b1,b2⟩:=vdup d hi hp
 have hs:slc d.Points 0 (i:Int)=some (d.Points.take i):=by
  unfold slc
  rw [if_pos ⟨by omega,by omega,by omega⟩]
  simp
 unfold spec_l05Points_l4 impl_ValidDrawing_l4 impl_within spec_l00In
 rw [if_pos (by omega),if_pos (by omega),rd_lt hi,b1,hs,w64_succ (by omega)]
 simp only [Option.bind_some,b2]
 cases (decide (d.Points[i].X≥0)&&decide (d.Points[i].X≤d.Width)) with
 | false=>exact ⟨false,rfl,rfl⟩
 | true=>
  cases (decide (d.Points[i].Y≥0)&&decide (d.Points[i].Y≤d.Height)) with
  | false=>exact ⟨false,rfl,rfl⟩
  | true=>
   cases b with
   | true=>exact ⟨false,rfl,rfl⟩
   | false=>exact ⟨true,rfl,rfl⟩
theorem face_step (d:S_Drawing) (hb:bd_S_Drawing d) {i:Nat} (hi:i<d.Faces.length):
 ∃w:Bool,spec_l05Ok_l4 d (i:Int)=(if w=true then some (.inl (((i+1:Nat):Int))) else some (.inr (.inr false)))∧impl_ValidDrawing_l10 d (i:Int)=(if w=true then some (.inl (((i+1:Nat):Int))) else some (.inr (.inr false))):=by
 obtain ⟨_,_,⟨hp,_⟩,⟨hf,hF⟩⟩:=hb
 obtain ⟨n,n1,n2⟩:=name_eq (d.Faces[i]).Name
 obtain ⟨r,r1,r2⟩:=ring_ev d.Points (d.Faces[i]).Ring hp (hF _ (List.getElem_mem hi)).2.1
 obtain ⟨q,q1,q2⟩:=poly_ok r.1 r2
 have hc:(i:Int) < (d.Faces.length:Int):=by omega
 unfold spec_l05Ok_l4 impl_ValidDrawing_l10
 rw [if_pos hc,if_pos hc,rd_lt hi,w64_succ (by omega)]
 simp only [Option.bind_some,vring,r1,q1,q2,n1,n2]
 have tail:∀t:Bool,∃w:Bool,(if t=true then (some (.inr (.inr false)):Option (Int ⊕ (Unit ⊕ Bool))) else (if r.2=true then some (!q) else some true).bind fun t_95_m9=>if t_95_m9=true then some (.inr (.inr false)) else some (.inl ((i+1:Nat):Int)))=(if w=true then some (.inl (((i+1:Nat):Int))) else some (.inr (.inr false))):=by
  intro t
  cases t
  ·cases r.2
   ·exact ⟨false,rfl⟩
   ·cases q
    ·exact ⟨false,rfl⟩
    ·exact ⟨true,rfl⟩
  ·exact ⟨false,rfl⟩
 cases n with
 | false=>exact ⟨false,rfl,rfl⟩
 | true=>
  by_cases c:(i:Int) >0
  ·simp only [if_pos c,if_true]
   rw [w64_pred (by omega) (by omega),rd_lt (show i - 1<d.Faces.length by omega)]
   simp only [Option.bind_some]
   obtain ⟨w,hw⟩:=tail (!Op.bytesLess (d.Faces[i - 1]'(by omega)).Name.toList (d.Faces[i]).Name.toList)
   exact ⟨w,hw,hw⟩
  ·simp only [if_neg c,if_true,Option.bind_some]
   obtain ⟨w,hw⟩:=tail false
   exact ⟨w,hw,hw⟩
theorem draw_ok (d:S_Drawing) (hb:bd_S_Drawing d):∃v,spec_l05Ok d=some v∧impl_ValidDrawing d=some v:=by
 obtain ⟨_,_,⟨hp,_⟩,⟨hf,_⟩⟩:=id hb
 obtain ⟨o1,p1,p2,p3⟩:=two_loops (f:=spec_l05Points_l4 d) (g:=impl_ValidDrawing_l4 d) hp (fun i hi=>pts_step d hp hi) (by unfold spec_l05Points_l4;rw [if_neg (by omega)]) (by unfold impl_ValidDrawing_l4;rw [if_neg (by omega)])
 obtain ⟨o2,f1,f2,f3⟩:=two_loops (f:=spec_l05Ok_l4 d) (g:=impl_ValidDrawing_l10 d) hf (fun i hi=>face_step d hb hi) (by unfold spec_l05Ok_l4;rw [if_neg (by omega)]) (by unfold impl_ValidDrawing_l10;rw [if_neg (by omega)])
 unfold spec_l05Ok impl_ValidDrawing spec_l05Points
 rw [p1,p2,f1,f2]
 simp only [vin,impl_within,Option.bind_some]
 cases (decide (d.Width≥10)&&decide (d.Width≤20000)) with
 | false=>exact ⟨false,rfl,rfl⟩
 | true=>
  cases (decide (d.Height≥10)&&decide (d.Height≤20000)) with
  | false=>exact ⟨false,rfl,rfl⟩
  | true=>
   by_cases c1:(d.Points.length:Int) >48
   ·simp only [if_pos c1]
    exact ⟨false,rfl,rfl⟩
   ·simp only [if_neg c1]
    cases decide ((d.Faces.length:Int) >24) with
    | true=>rcases p3 with rfl | rfl<;>exact ⟨false,rfl,rfl⟩
    | false=>rcases p3 with rfl | rfl<;>rcases f3 with rfl | rfl<;>exact ⟨_,rfl,rfl⟩
theorem has_spec (l:List Int) (n:Int) (hl:l.length≤1048576):spec_l00Has l n=some (decide (n∈l)):=by
 unfold spec_l00Has
 rcases scanAll (f:=spec_l00Has_l2 l n) l (fun x=>!decide (x=n)) (fun _=>true) (by omega) (fun i hi=>by
  unfold spec_l00Has_l2
  rw [if_pos (by omega),rd_lt hi,Option.bind_some]
  by_cases c:l[i]=n<;>simp [c]) (by unfold spec_l00Has_l2;rw [if_neg (by omega)]) with ⟨h1,h2⟩ | ⟨h1,i,hi,h2⟩
 ·rw [h2]
  have:¬n∈l:=fun h=>by
   have:=List.all_eq_true.1 h1 n h
   simp at this
  simp [this]
 ·rw [h2]
  have:n∈l:=by
   rw [List.all_eq_false] at h1
   obtain ⟨x,hx,h⟩:=h1
   simp at h
   exact h ▸ hx
  simp [this]
theorem has_impl (l:List Int) (n:Int) (hl:l.length≤1048576):slices_Contains_int64_int64 l n=some (decide (n∈l)):=by
 unfold slices_Contains_int64_int64 slices_Index_int64_int64
 rcases scanAll (f:=slices_Index_int64_int64_l2 l n) l (fun x=>!decide (n=x)) (fun i=>(i:Int)) (by omega) (fun i hi=>by
  unfold slices_Index_int64_int64_l2
  rw [if_pos (by omega),rd_lt hi,Option.bind_some]
  by_cases c:n=l[i]<;>simp [c]) (by unfold slices_Index_int64_int64_l2;rw [if_neg (by omega)]) with ⟨h1,h2⟩ | ⟨h1,i,hi,h2⟩
 ·rw [h2]
  have:¬n∈l:=fun h=>by
   have:=List.all_eq_true.1 h1 n h
   simp at this
  simp [this]
 ·rw [h2]
  have:n∈l:=by
   rw [List.all_eq_false] at h1
   obtain ⟨x,hx,h⟩:=h1
   simp at h
   exact h ▸ hx
  simp [this]
theorem all_loop {α:Type} {f:Int→Option (Int ⊕ (Unit ⊕ Bool))} (l:List α) (V:α→Bool) (hl:l.length≤1048576)
 (h1:∀(i:Nat) (hi:i<l.length),f (i:Int)=if V l[i]=true then some (.inl (w64 ((i:Int)+1))) else some (.inr (.inr false))) (h2:f (l.length:Int)=some (.inr (.inl ()))):
 loopO f 0=some (if l.all V=true then .inl () else .inr false):=by
 rcases scanFind (ρ:=Bool) l (fun x=>!V x) (fun _=>false) (by omega) (fun i hi=>by rw [h1 i hi];cases V l[i]<;>rfl) h2 with ⟨a,b⟩ | ⟨i,hi,a,_,b⟩
 ·rw [b,if_pos (List.all_eq_true.2 fun x hx=>by simpa using a x hx)]
 ·have:¬l.all V=true:=fun h=>by
   have e:=List.all_eq_true.1 h _ (List.getElem_mem hi)
   rw [e] at a
   cases a
  rw [b,if_neg this]
theorem any_index {α:Type} {f:Int→Option (Int ⊕ (Unit ⊕ Int))} (l:List α) (V:α→Bool) (hl:l.length≤1048576)
 (h1:∀(i:Nat) (hi:i<l.length),f (i:Int)=if (!V l[i])=true then some (.inr (.inr (i:Int))) else some (.inl (w64 ((i:Int)+1)))) (h2:f (l.length:Int)=some (.inr (.inl ()))):
 (l.all V=true∧loopO f 0=some (.inl ()))∨(l.all V=false∧∃k:Nat,loopO f 0=some (.inr (k:Int))):=by
 rcases scanFind l (fun x=>!V x) (fun k=>(k:Int)) (by omega) h1 h2 with ⟨a,b⟩ | ⟨i,hi,a,_,b⟩
 ·exact .inl ⟨List.all_eq_true.2 fun x hx=>by simpa using a x hx,b⟩
 ·refine .inr ⟨?_,i,b⟩
  rw [List.all_eq_false]
  exact ⟨_,List.getElem_mem hi,by simpa using a⟩
theorem two_loopsW {f g:Int→Option (Int ⊕ (Unit ⊕ Bool))} {n:Nat} (hn:n≤1048576) (W:Nat→Bool)
 (h1:∀i:Nat,i<n→f (i:Int)=(if W i=true then some (.inl (((i+1:Nat):Int))) else some (.inr (.inr false))))
 (h2:∀i:Nat,i<n→g (i:Int)=(if W i=true then some (.inl (((i+1:Nat):Int))) else some (.inr (.inr false))))
 (hf:f (n:Int)=some (.inr (.inl ()))) (hg:g (n:Int)=some (.inr (.inl ()))):
 (loopO f 0=some (.inl ())∧loopO g 0=some (.inl ())∧∀i,i<n→W i=true)∨(loopO f 0=some (.inr false)∧loopO g 0=some (.inr false)):=by
 have key:∀(m i:Nat),i+m=n→(loopO f (i:Int)=some (.inl ())∧loopO g (i:Int)=some (.inl ())∧∀k,i≤k→k<n→W k=true)∨(loopO f (i:Int)=some (.inr false)∧loopO g (i:Int)=some (.inr false)):=by
  intro m
  induction m with
  | zero=>
   intro i hi
   obtain rfl:i=n:=by omega
   exact .inl ⟨loopO_done hf,loopO_done hg,fun k h1 h2=>by omega⟩
  | succ m ih=>
   intro i hi
   have e1:=h1 i (by omega)
   have e2:=h2 i (by omega)
   cases hw:W i with
   | true=>
    rw [hw,if_pos rfl] at e1 e2
    rw [loopO_next e1,loopO_next e2]
    rcases ih (i+1) (by omega) with ⟨a,b,c⟩ | h
    ·refine .inl ⟨a,b,fun k k1 k2=>?_⟩
     by_cases e:k=i
     ·rw [e];exact hw
     ·exact c k (by omega) k2
    ·exact .inr h
   | false=>
    rw [hw,if_neg (by decide)] at e1 e2
    exact .inr ⟨loopO_done e1,loopO_done e2⟩
 rcases key n 0 (by omega) with ⟨a,b,c⟩ | h
 ·exact .inl ⟨a,b,fun i hi=>c i (Nat.zero_le _) hi⟩
 ·exact .inr h
def nms:List ByteArray:=[⟨#[97,115,104]⟩,⟨#[98,101,101,99,104]⟩,⟨#[98,105,114,99,104]⟩,⟨#[99,104,101,114,114,121]⟩,⟨#[101,98,111,110,121]⟩,⟨#[104,111,108,108,121]⟩,⟨#[109,97,112,108,101]⟩,⟨#[111,97,107]⟩,⟨#[114,111,115,101,119,111,111,100]⟩,⟨#[119,97,108,110,117,116]⟩]
theorem bne_of {a b:Array UInt8} (h:a.toList≠b.toList):¬(⟨a⟩:ByteArray)=⟨b⟩:=fun e=>h (by injection e with e;rw [e])
theorem species (s:ByteArray):(spec_l07Find s=some (-1)∧impl_speciesShade s=some (0,false))∨
 ∃(k:Nat) (b:Int) (tb:List (List Int)) (row:List Int),spec_l07Find s=some (k:Int)∧spec_l07Table=some tb∧rd tb (k:Int)=some row∧rd row 0=some b∧0≤b∧b≤100∧impl_speciesShade s=some (b,true):=by
 have hN:spec_l07Names=some nms:=rfl
 unfold spec_l07Find
 rw [hN,Option.bind_some]
 rcases scanFind (f:=spec_l07Find_l3 s nms) nms (fun x=>decide (x=s)) (fun k=>(k:Int)) (by decide) (fun i hi=>by
  unfold spec_l07Find_l3
  rw [if_pos (by omega),rd_lt hi,Option.bind_some]
  by_cases c:nms[i]=s
  ·rw [if_pos c,if_pos (decide_eq_true c)]
  ·rw [if_neg c,if_neg (by simpa using c)]) (by unfold spec_l07Find_l3;rw [if_neg (by omega)]) with ⟨a,b⟩ | ⟨k,hk,a,_,b⟩
 ·left
  rw [b]
  refine ⟨rfl,?_⟩
  have hn:∀x∈nms,¬s=x:=fun x hx e=>by
   have:=a x hx
   rw [e] at this
   simp at this
  simp only [nms,List.mem_cons,forall_eq_or_imp,List.not_mem_nil,false_implies,implies_true,and_true] at hn
  obtain ⟨h1,h2,h3,h4,h5,h6,h7,h8,h9,h10⟩:=hn
  unfold impl_speciesShade impl_SpeciesData
  rw [if_neg h1,if_neg h2,if_neg h3,if_neg h4,if_neg h5,if_neg h6,if_neg h7,if_neg h8,if_neg h9,if_neg h10]
  rfl
 ·right
  rw [b]
  have hs:nms[k]=s:=by simpa using a
  have hk':k<10:=hk
  unfold impl_speciesShade impl_SpeciesData
  have hc:k=0∨k=1∨k=2∨k=3∨k=4∨k=5∨k=6∨k=7∨k=8∨k=9:=by omega
  rcases hc with rfl | rfl | rfl | rfl | rfl | rfl | rfl | rfl | rfl | rfl
  ·rw [←hs];exact ⟨0,20,_,_,rfl,rfl,rfl,rfl,by decide,by decide,by rw [show nms[0]=(⟨#[97,115,104]⟩:ByteArray) from rfl,if_pos rfl];rfl⟩
  ·rw [←hs];exact ⟨1,35,_,_,rfl,rfl,rfl,rfl,by decide,by decide,by rw [show nms[1]=(⟨#[98,101,101,99,104]⟩:ByteArray) from rfl,if_neg (bne_of (by decide)),if_pos rfl];rfl⟩
  ·rw [←hs];exact ⟨2,15,_,_,rfl,rfl,rfl,rfl,by decide,by decide,by rw [show nms[2]=(⟨#[98,105,114,99,104]⟩:ByteArray) from rfl,if_neg (bne_of (by decide)),if_neg (bne_of (by decide)),if_pos rfl];rfl⟩
  ·rw [←hs];exact ⟨3,50,_,_,rfl,rfl,rfl,rfl,by decide,by decide,by rw [show nms[3]=(⟨#[99,104,101,114,114,121]⟩:ByteArray) from rfl,if_neg (bne_of (by decide)),if_neg (bne_of (by decide)),if_neg (bne_of (by decide)),if_pos rfl];rfl⟩
  ·rw [←hs];exact ⟨4,95,_,_,rfl,rfl,rfl,rfl,by decide,by decide,by rw [show nms[4]=(⟨#[101,98,111,110,121]⟩:ByteArray) from rfl,if_neg (bne_of (by decide)),if_neg (bne_of (by decide)),if_neg (bne_of (by decide)),if_neg (bne_of (by decide)),if_pos rfl];rfl⟩
  ·rw [←hs];exact ⟨5,5,_,_,rfl,rfl,rfl,rfl,by decide,by decide,by rw [show nms[5]=(⟨#[104,111,108,108,121]⟩:ByteArray) from rfl,if_neg (bne_of (by decide)),if_neg (bne_of (by decide)),if_neg (bne_of (by decide)),if_neg (bne_of (by decide)),if_neg (bne_of (by decide)),if_pos rfl];rfl⟩
  ·rw [←hs];exact ⟨6,10,_,_,rfl,rfl,rfl,rfl,by decide,by decide,by rw [show nms[6]=(⟨#[109,97,112,108,101]⟩:ByteArray) from rfl,if_neg (bne_of (by decide)),if_neg (bne_of (by decide)),if_neg (bne_of (by decide)),if_neg (bne_of (by decide)),if_neg (bne_of (by decide)),if_neg (bne_of (by decide)),if_pos rfl];rfl⟩
  ·rw [←hs];exact ⟨7,40,_,_,rfl,rfl,rfl,rfl,by decide,by decide,by rw [show nms[7]=(⟨#[111,97,107]⟩:ByteArray) from rfl,if_neg (bne_of (by decide)),if_neg (bne_of (by decide)),if_neg (bne_of (by decide)),if_neg (bne_of (by decide)),if_neg (bne_of (by decide)),if_neg (bne_of (by decide)),if_neg (bne_of (by decide)),if_pos rfl];rfl⟩
  ·rw [←hs];exact ⟨8,80,_,_,rfl,rfl,rfl,rfl,by decide,by decide,by rw [show nms[8]=(⟨#[114,111,115,101,119,111,111,100]⟩:ByteArray) from rfl,if_neg (bne_of (by decide)),if_neg (bne_of (by decide)),if_neg (bne_of (by decide)),if_neg (bne_of (by decide)),if_neg (bne_of (by decide)),if_neg (bne_of (by decide)),if_neg (bne_of (by decide)),if_neg (bne_of (by decide)),if_pos rfl];rfl⟩
  ·rw [←hs];exact ⟨9,70,_,_,rfl,rfl,rfl,rfl,by decide,by decide,by rw [show nms[9]=(⟨#[119,97,108,110,117,116]⟩:ByteArray) from rfl,if_neg (bne_of (by decide)),if_neg (bne_of (by decide)),if_neg (bne_of (by decide)),if_neg (bne_of (by decide)),if_neg (bne_of (by decide)),if_neg (bne_of (by decide)),if_neg (bne_of (by decide)),if_neg (bne_of (by decide)),if_neg (bne_of (by decide)),if_pos rfl];rfl⟩
theorem ven_eq (x:S_Veneer):∃v,spec_l07Ok x=some v∧impl_ValidVeneer x=some v:=by
 unfold spec_l07Ok impl_ValidVeneer
 rcases species x.Species with ⟨h1,h2⟩ | ⟨k,b,tb,row,h1,h2,h3,h4,h5,h6,h7⟩
 ·rw [h1,h2];exact ⟨false,rfl,rfl⟩
 ·rw [h1,h7,h2]
  simp only [Option.bind_some,h3,h4,in_eq,within_eq,if_true,spec_l07Grain]
  rw [if_neg (show ¬(k:Int) <0 by omega),w64_id (n:=b - 15) (by omega) (by omega),w64_id (n:=b+15) (by omega) (by omega)]
  by_cases c:0≤x.Shade∧x.Shade≤100
  ·rw [w64_id (n:=x.Shade - b) (by omega) (by omega),decide_eq_true c]
   have e:decide (b - 15≤x.Shade∧x.Shade≤b+15)=decide (-15≤x.Shade - b∧x.Shade - b≤15):=decide_eq_decide.2 ⟨fun h=>by omega,fun h=>by omega⟩
   rw [e]
   cases decide (-15≤x.Shade - b∧x.Shade - b≤15)<;>exact ⟨_,rfl,rfl⟩
  ·rw [decide_eq_false c]
   exact ⟨false,rfl,rfl⟩
noncomputable def venV (x:S_Veneer):Bool:=(spec_l07Ok x).getD false
theorem ven_s (x:S_Veneer):spec_l07Ok x=some (venV x):=by
 obtain ⟨v,h,_⟩:=ven_eq x
 unfold venV
 rw [h];rfl
theorem ven_i (x:S_Veneer):impl_ValidVeneer x=some (venV x):=by
 obtain ⟨v,h,h2⟩:=ven_eq x
 unfold venV
 rw [h,h2];rfl
theorem vens_s (l:List S_Veneer) (hl:l.length≤1048576):spec_l08Veneers l=some (l.all venV):=by
 unfold spec_l08Veneers
 rw [all_loop (f:=spec_l08Veneers_l2 l) l venV hl (fun i hi=>by
  unfold spec_l08Veneers_l2
  rw [if_pos (by omega),rd_lt hi,Option.bind_some,ven_s,Option.bind_some]) (by unfold spec_l08Veneers_l2;rw [if_neg (by omega)])]
 cases l.all venV<;>rfl
theorem vens_i (l:List S_Veneer) (hl:l.length≤1048576):impl_validVeneers l=some (l.all venV):=by
 unfold impl_validVeneers slices_ContainsFunc_impl_Veneer_impl_Veneer slices_IndexFunc_impl_Veneer_impl_Veneer
 rcases any_index (f:=slices_IndexFunc_impl_Veneer_impl_Veneer_l2 (fun a0=>impl_validVeneers_c1 a0) l) l venV hl (fun i hi=>by
  unfold slices_IndexFunc_impl_Veneer_impl_Veneer_l2 impl_validVeneers_c1
  rw [if_pos (by omega),rd_lt hi,Option.bind_some]
  simp only [ven_i,Option.bind_some]) (by unfold slices_IndexFunc_impl_Veneer_impl_Veneer_l2;rw [if_neg (by omega)]) with ⟨a,b⟩ | ⟨a,k,b⟩
 ·rw [b,a];rfl
 ·rw [b,a]
  show some (!decide ((k:Int)≥0))=_
  rw [decide_eq_true (by omega)]
  rfl
theorem pic_eq (p:S_Picture) (hb:bd_S_Picture p):∃v,spec_l08Ok p=some v∧impl_ValidPicture p=some v∧(v=true→p.Veneers.length=p.Drawing.Faces.length):=by
 obtain ⟨hd,hv,_⟩:=hb
 obtain ⟨d,d1,d2⟩:=draw_ok p.Drawing hd
 unfold spec_l08Ok impl_ValidPicture
 rw [d1,d2,vens_s _ hv,vens_i _ hv]
 simp only [Option.bind_some]
 cases d with
 | false=>exact ⟨false,rfl,rfl,fun h=>by cases h⟩
 | true=>
  by_cases c:(p.Veneers.length:Int)=(p.Drawing.Faces.length:Int)
  ·rw [if_pos rfl,if_pos rfl,if_pos c,beq_iff_eq.2 c]
   cases p.Veneers.all venV<;>exact ⟨_,rfl,rfl,fun _=>by omega⟩
  ·rw [if_pos rfl,if_pos rfl,if_neg c,show ((p.Veneers.length:Int)==(p.Drawing.Faces.length:Int))=false from by simpa using c]
   cases p.Veneers.all venV<;>exact ⟨false,rfl,rfl,fun h=>by cases h⟩
theorem box_tot (b:S_Box) (w l:Int):∃v,impl_boxWithin b w l=some v:=by
 unfold impl_boxWithin
 simp only [within_eq,Option.bind_some]
 cases decide (0≤b.X∧b.X≤w) with
 | false=>exact ⟨_,rfl⟩
 | true=>
  cases decide (0≤b.Y∧b.Y≤l) with
  | false=>exact ⟨_,rfl⟩
  | true=>cases decide (1≤b.Width∧b.Width≤w64 (w - b.X))<;>exact ⟨_,rfl⟩
noncomputable def boxV (w l:Int) (b:S_Box):Bool:=(impl_boxWithin b w l).getD false
theorem box_i (b:S_Box) (w l:Int):impl_boxWithin b w l=some (boxV w l b):=by
 obtain ⟨v,h⟩:=box_tot b w l
 unfold boxV
 rw [h];rfl
theorem box_s (b:S_Box) (w l:Int):spec_l09Box b w l=some (boxV w l b):=box_i b w l
theorem leaf_eq (l:S_Leaf) (hb:l.Defects.length≤1048576):∃v,spec_l09One l=some v∧impl_ValidLeaf l=some v:=by
 obtain ⟨n1,p1,q1⟩:=name_eq l.Id
 obtain ⟨n2,p2,q2⟩:=name_eq l.Flitch
 have hs:=all_loop (f:=spec_l09One_l6 l) l.Defects (boxV l.Width l.Length) hb (fun i hi=>by
  unfold spec_l09One_l6
  rw [if_pos (by omega),rd_lt hi,Option.bind_some,box_s,Option.bind_some]) (by unfold spec_l09One_l6;rw [if_neg (by omega)])
 have hi:slices_ContainsFunc_impl_Box_impl_Box l.Defects (fun a0=>impl_ValidLeaf_c1 a0 l.Id l.Flitch l.Number l.Veneer.Species l.Veneer.Shade l.Veneer.Grain l.Width l.Length l.Defects)=some (!l.Defects.all (boxV l.Width l.Length)):=by
  unfold slices_ContainsFunc_impl_Box_impl_Box slices_IndexFunc_impl_Box_impl_Box
  rcases any_index (f:=slices_IndexFunc_impl_Box_impl_Box_l2 (fun a0=>impl_ValidLeaf_c1 a0 l.Id l.Flitch l.Number l.Veneer.Species l.Veneer.Shade l.Veneer.Grain l.Width l.Length l.Defects) l.Defects) l.Defects (boxV l.Width l.Length) hb (fun i hi=>by
   unfold slices_IndexFunc_impl_Box_impl_Box_l2 impl_ValidLeaf_c1
   rw [if_pos (by omega),rd_lt hi,Option.bind_some]
   simp only [box_i,Option.bind_some]) (by unfold slices_IndexFunc_impl_Box_impl_Box_l2;rw [if_neg (by omega)]) with ⟨a,b⟩ | ⟨a,k,b⟩
  ·rw [b,a];rfl
  ·rw [b,a]
   show some (decide ((k:Int)≥0))=_
   rw [decide_eq_true (by omega)]
   rfl
 unfold spec_l09One impl_ValidLeaf
 simp only [p1,q1,p2,q2,hs,hi,ven_s,ven_i,in_eq,within_eq,Option.bind_some]
 cases n1 with
 | false=>exact ⟨false,rfl,rfl⟩
 | true=>
 cases n2 with
 | false=>exact ⟨false,rfl,rfl⟩
 | true=>
 cases decide (0≤l.Number∧l.Number≤999) with
 | false=>exact ⟨false,rfl,rfl⟩
 | true=>
 cases venV l.Veneer with
 | false=>exact ⟨false,rfl,rfl⟩
 | true=>
 cases decide (10≤l.Width∧l.Width≤20000) with
 | false=>exact ⟨false,rfl,rfl⟩
 | true=>
 cases decide (10≤l.Length∧l.Length≤20000) with
 | false=>exact ⟨false,rfl,rfl⟩
 | true=>
 cases decide ((l.Defects.length:Int) >6) with
 | true=>exact ⟨false,rfl,rfl⟩
 | false=>cases l.Defects.all (boxV l.Width l.Length)<;>exact ⟨_,rfl,rfl⟩
theorem leaves_eq (L:List S_Leaf) (hl:L.length≤1048576) (hb:∀x∈L,bd_S_Leaf x):∃v,spec_l09Ok L=some v∧impl_ValidLeaves L=some v:=by
 obtain ⟨o,o1,o2,o3⟩:=two_loops (f:=spec_l09Ok_l2 L) (g:=impl_ValidLeaves_l2 L) hl (fun i hi=>by
  obtain ⟨_,_,_,_,_,_,hd,_⟩:=hb _ (List.getElem_mem hi)
  obtain ⟨v,v1,v2⟩:=leaf_eq L[i] hd
  have hc:(i:Int) < (L.length:Int):=by omega
  unfold spec_l09Ok_l2 impl_ValidLeaves_l2
  rw [if_pos hc,if_pos hc,rd_lt hi,w64_succ (by omega)]
  simp only [Option.bind_some,v1,v2]
  cases v with
  | false=>exact ⟨false,rfl,rfl⟩
  | true=>
   by_cases c:(i:Int) >0
   ·simp only [if_pos c,if_true]
    rw [w64_pred (by omega) (by omega),rd_lt (show i - 1<L.length by omega)]
    simp only [Option.bind_some]
    cases (!Op.bytesLess (L[i - 1]'(by omega)).Id.toList (L[i]).Id.toList) with
    | true=>exact ⟨false,rfl,rfl⟩
    | false=>exact ⟨true,rfl,rfl⟩
   ·simp only [if_neg c,if_true,Option.bind_some]
    exact ⟨true,rfl,rfl⟩) (by unfold spec_l09Ok_l2;rw [if_neg (by omega)]) (by unfold impl_ValidLeaves_l2;rw [if_neg (by omega)])
 unfold spec_l09Ok impl_ValidLeaves
 rw [o1,o2]
 cases o<;>exact ⟨_,rfl,rfl⟩
theorem pl_tot (p:S_Placement):∃v,impl_validPlacement p=some v∧(v=true→0≤p.Face):=by
 unfold impl_validPlacement
 simp only [within_eq,Option.bind_some]
 by_cases c:0≤p.Face∧p.Face≤23
 ·rw [decide_eq_true c]
  cases decide (0≤p.Leaf∧p.Leaf≤15) with
  | false=>exact ⟨false,rfl,fun h=>by cases h⟩
  | true=>
   cases decide (0≤p.X∧p.X≤20000) with
   | false=>exact ⟨false,rfl,fun h=>by cases h⟩
   | true=>
    cases decide (0≤p.Y∧p.Y≤20000) with
    | false=>exact ⟨false,rfl,fun h=>by cases h⟩
    | true=>exact ⟨_,rfl,fun _=>c.1⟩
 ·rw [decide_eq_false c]
  exact ⟨false,rfl,fun h=>by cases h⟩
noncomputable def plV (p:S_Placement):Bool:=(impl_validPlacement p).getD false
theorem pl_i (p:S_Placement):impl_validPlacement p=some (plV p):=by
 obtain ⟨v,h,_⟩:=pl_tot p
 unfold plV
 rw [h];rfl
theorem pl_s (p:S_Placement):spec_l11One p=some (plV p):=pl_i p
theorem pl_0 (p:S_Placement) (h:plV p=true):0≤p.Face:=by
 obtain ⟨v,h1,h2⟩:=pl_tot p
 refine h2 ?_
 rw [pl_i] at h1
 rw [←Option.some.inj h1]
 exact h
noncomputable def plW (l:List S_Placement) (i:Nat):Bool:=match l[i]? with
 | none=>true
 | some p=>plV p&&(i==0||match l[i - 1]? with | none=>true | some q=>decide (q.Face<p.Face))
theorem pls_step (L:List S_Placement) (hl:L.length≤1048576) {i:Nat} (hi:i<L.length):
 spec_l11Ok_l2 L (i:Int)=(if plW L i=true then some (.inl (((i+1:Nat):Int))) else some (.inr (.inr false)))∧impl_ValidPlacements_l2 L (i:Int)=(if plW L i=true then some (.inl (((i+1:Nat):Int))) else some (.inr (.inr false))):=by
 have hc:(i:Int) < (L.length:Int):=by omega
 unfold spec_l11Ok_l2 impl_ValidPlacements_l2 plW
 rw [if_pos hc,if_pos hc,rd_lt hi,w64_succ (by omega),List.getElem?_eq_getElem hi]
 simp only [Option.bind_some,pl_s,pl_i]
 by_cases hp:plV L[i]=true
 ·by_cases c:(i:Int) >0
  ·simp only [hp,if_pos c,if_true]
   rw [w64_pred (by omega) (by omega),rd_lt (show i - 1<L.length by omega)]
   simp only [List.getElem?_eq_getElem (show i - 1<L.length by omega),show (i==0)=false from beq_eq_false_iff_ne.2 (by omega),Option.bind_some,Bool.true_and,Bool.false_or]
   by_cases d:(L[i - 1]'(by omega)).Face< (L[i]).Face
   ·rw [decide_eq_true d,decide_eq_false (show ¬(L[i - 1]'(by omega)).Face≥(L[i]).Face by omega)]
    exact ⟨rfl,rfl⟩
   ·rw [decide_eq_false d,decide_eq_true (show (L[i - 1]'(by omega)).Face≥(L[i]).Face by omega)]
    exact ⟨rfl,rfl⟩
  ·obtain rfl:i=0:=by omega
   simp only [hp,if_neg c,if_true,Option.bind_some,Bool.true_and,beq_self_eq_true,Bool.true_or,Bool.false_eq_true,if_false,and_self]
 ·have hp:plV L[i]=false:=by simpa using hp
  simp only [hp,Bool.false_and,Bool.false_eq_true,if_false,if_true,Option.bind_some,and_self]
theorem pls_eq (L:List S_Placement) (hl:L.length≤1048576):∃v,spec_l11Ok L=some v∧impl_ValidPlacements L=some v∧(v=true→∀i,i<L.length→plW L i=true):=by
 unfold spec_l11Ok impl_ValidPlacements
 rcases two_loopsW (f:=spec_l11Ok_l2 L) (g:=impl_ValidPlacements_l2 L) hl (plW L) (fun i hi=>(pls_step L hl hi).1) (fun i hi=>(pls_step L hl hi).2) (by unfold spec_l11Ok_l2;rw [if_neg (by omega)]) (by unfold impl_ValidPlacements_l2;rw [if_neg (by omega)]) with ⟨a,b,c⟩ | ⟨a,b⟩
 ·rw [a,b];exact ⟨_,rfl,rfl,fun _=>c⟩
 ·rw [a,b];exact ⟨false,rfl,rfl,fun h=>by cases h⟩
theorem pls_up (L:List S_Placement) (h:∀i,i<L.length→plW L i=true):∀(j:Nat) (hj:j<L.length) (i:Nat) (hi:i≤j),0≤(L[i]'(by omega)).Face∧(L[i]'(by omega)).Face≤(L[j]).Face:=by
 intro j
 induction j with
 | zero=>
  intro hj i hi
  obtain rfl:i=0:=by omega
  have:=h 0 hj
  unfold plW at this
  rw [List.getElem?_eq_getElem hj] at this
  simp only [Bool.and_eq_true] at this
  exact ⟨pl_0 _ this.1,Int.le_refl _⟩
 | succ j ih=>
  intro hj i hi
  have:=h (j+1) hj
  unfold plW at this
  rw [List.getElem?_eq_getElem hj,Nat.add_sub_cancel,List.getElem?_eq_getElem (show j<L.length by omega)] at this
  simp only [Bool.and_eq_true,Bool.or_eq_true,beq_iff_eq,Nat.add_one_ne_zero,false_or,decide_eq_true_eq] at this
  by_cases e:i=j+1
  ·subst e
   exact ⟨pl_0 _ this.1,Int.le_refl _⟩
  ·obtain ⟨a,b⟩:=ih (by omega) i (by omega)
   exact ⟨a,by omega⟩
theorem fits_s (p:S_Picture) (L:List S_Placement) (hl:L.length≤1048576) (hf:p.Drawing.Faces.length≤1048576):spec_l11Fits p L=some (L.all fun q=>decide (0≤q.Face∧q.Face≤(p.Drawing.Faces.length:Int) - 1)):=by
 unfold spec_l11Fits
 rw [all_loop (f:=spec_l11Fits_l2 L p) L (fun q=>decide (0≤q.Face∧q.Face≤(p.Drawing.Faces.length:Int) - 1)) hl (fun i hi=>by
  unfold spec_l11Fits_l2 spec_l05Face
  rw [if_pos (by omega),rd_lt hi,Option.bind_some,in_eq,w64_id (n:=(p.Drawing.Faces.length:Int) - 1) (by omega) (by omega)]
  rfl) (by unfold spec_l11Fits_l2;rw [if_neg (by omega)])]
 cases L.all _<;>rfl
theorem order_eq (d:S_Drawing) (o:List Int) (n:Nat) (hn:n=d.Faces.length) (hf:d.Faces.length≤1048576) (ho:o.length≤1048576):∃v,spec_l23Order d o=some v∧impl_isFaceOrder o (n:Int)=some v:=by
 obtain ⟨r,r1,r2,r3⟩:=two_loops (f:=spec_l23Order_l2 d o) (g:=impl_isFaceOrder_l2 o (n:Int)) ho (fun i hi=>by
  have hs:slc o 0 (i:Int)=some (o.take i):=by
   unfold slc
   rw [if_pos ⟨by omega,by omega,by omega⟩]
   simp
  have hlen:(o.take i).length≤1048576:=by rw [List.length_take];omega
  have hc:(i:Int) < (o.length:Int):=by omega
  unfold spec_l23Order_l2 impl_isFaceOrder_l2 spec_l05Face
  rw [if_pos hc,if_pos hc,rd_lt hi,w64_succ (by omega),hs,hn,w64_id (n:=(d.Faces.length:Int) - 1) (by omega) (by omega)]
  simp only [Option.bind_some,in_eq,within_eq,has_spec _ _ hlen,has_impl _ _ hlen]
  cases decide (0≤o[i]∧o[i]≤(d.Faces.length:Int) - 1) with
  | false=>exact ⟨false,rfl,rfl⟩
  | true=>
   cases decide (o[i]∈o.take i) with
   | true=>exact ⟨false,rfl,rfl⟩
   | false=>exact ⟨true,rfl,rfl⟩) (by unfold spec_l23Order_l2;rw [if_neg (by omega)]) (by unfold impl_isFaceOrder_l2;rw [if_neg (by omega)])
 unfold spec_l23Order impl_isFaceOrder
 rw [r1,r2]
 cases r<;>exact ⟨_,rfl,rfl⟩
theorem rules_eq (r:S_Rules):∃v,spec_l11Rules r=some v∧impl_ValidRules r=some v:=by
 unfold spec_l11Rules impl_ValidRules
 simp only [in_eq,within_eq,Option.bind_some]
 cases decide (0≤r.Spacing∧r.Spacing≤500) with
 | false=>exact ⟨_,rfl,rfl⟩
 | true=>
  cases decide (0≤r.Margin∧r.Margin≤500) with
  | false=>exact ⟨_,rfl,rfl⟩
  | true=>cases decide (0≤r.Angle∧r.Angle≤90)<;>exact ⟨_,rfl,rfl⟩
theorem job_eq (j:S_Job) (hb:bd_S_Job j):∃v,spec_l31Ok j=some v∧impl_ValidJob j=some v:=by
 obtain ⟨hp,⟨hl1,hl2⟩,⟨hq,_⟩,_,_,_,_,_,⟨ho,_⟩,_⟩:=hb
 have hf:j.Picture.Drawing.Faces.length≤1048576:=by
  obtain ⟨⟨_,_,_,⟨hf,_⟩⟩,_⟩:=hp
  exact hf
 obtain ⟨a,a1,a2,a3⟩:=pic_eq j.Picture hp
 obtain ⟨b,b1,b2⟩:=leaves_eq j.Leaves hl1 hl2
 obtain ⟨c,c1,c2,c3⟩:=pls_eq j.Placements hq
 obtain ⟨d,d1,d2⟩:=rules_eq j.Rules
 unfold spec_l31Ok impl_ValidJob
 rw [a1,a2,b1,b2,c1,c2,d1,d2,fits_s _ _ hq hf]
 simp only [Option.bind_some]
 cases a with
 | false=>exact ⟨false,rfl,rfl⟩
 | true=>
 cases b with
 | false=>exact ⟨false,rfl,rfl⟩
 | true=>
 cases c with
 | false=>exact ⟨false,rfl,rfl⟩
 | true=>
 have hv:=a3 rfl
 have up:=pls_up _ (c3 rfl)
 have last:(if (j.Placements.length:Int) >0 then ((rd j.Placements (w64 ((j.Placements.length:Int) - 1))).bind fun x41=>some (decide (x41.Face≥(j.Picture.Veneers.length:Int)))) else (some false))=
  some (!(j.Placements.all fun q=>decide (0≤q.Face∧q.Face≤(j.Picture.Drawing.Faces.length:Int) - 1))):=by
  by_cases e:(j.Placements.length:Int) >0
  ·have hk:j.Placements.length - 1<j.Placements.length:=by omega
   rw [if_pos e,w64_pred (by omega) (by omega),rd_lt hk,Option.bind_some,hv]
   congr 1
   by_cases g:(j.Placements[j.Placements.length - 1]).Face≥(j.Picture.Drawing.Faces.length:Int)
   ·rw [decide_eq_true g]
    have:(j.Placements.all fun q=>decide (0≤q.Face∧q.Face≤(j.Picture.Drawing.Faces.length:Int) - 1))=false:=by
     rw [List.all_eq_false]
     refine ⟨_,List.getElem_mem hk,?_⟩
     rw [decide_eq_true_eq]
     rintro ⟨_,h2⟩
     omega
    rw [this];rfl
   ·rw [decide_eq_false g]
    have:(j.Placements.all fun q=>decide (0≤q.Face∧q.Face≤(j.Picture.Drawing.Faces.length:Int) - 1))=true:=by
     rw [List.all_eq_true]
     intro q hq
     obtain ⟨i,hi,rfl⟩:=List.getElem_of_mem hq
     obtain ⟨u1,u2⟩:=up _ hk i (by omega)
     rw [decide_eq_true_eq]
     omega
    rw [this];rfl
  ·rw [if_neg e]
   have:j.Placements=[]:=List.length_eq_zero_iff.1 (by omega)
   rw [this];rfl
 rw [last]
 obtain ⟨o,o1,o2⟩:=order_eq j.Picture.Drawing j.Order j.Picture.Veneers.length hv hf ho
 rw [o1,o2]
 unfold spec_l13Sheet spec_l13Angle spec_l13Tolerance
 simp only [in_eq,within_eq,Option.bind_some]
 cases d with
 | false=>cases j.Placements.all _<;>exact ⟨false,rfl,rfl⟩
 | true=>
 cases j.Placements.all _ with
 | false=>exact ⟨false,rfl,rfl⟩
 | true=>
 cases decide (1≤j.Thickness∧j.Thickness≤1000) with
 | false=>exact ⟨false,rfl,rfl⟩
 | true=>
 cases decide (0≤j.Kerf∧j.Kerf≤200) with
 | false=>exact ⟨false,rfl,rfl⟩
 | true=>
 cases decide (0≤j.Bevel∧j.Bevel≤30) with
 | false=>exact ⟨false,rfl,rfl⟩
 | true=>cases decide (0≤j.Gap∧j.Gap≤200)<;>exact ⟨_,rfl,rfl⟩
theorem bond_tot (b:S_Bond):∃v,spec_l24One b=some v∧impl_ValidBond b=some v:=by
 obtain ⟨n,p,q⟩:=name_eq b.Name
 unfold spec_l24One impl_ValidBond
 simp only [p,q,in_eq,within_eq,Option.bind_some]
 cases n with
 | false=>exact ⟨_,rfl,rfl⟩
 | true=>
  cases decide (1≤b.Spread∧b.Spread≤120) with
  | false=>exact ⟨_,rfl,rfl⟩
  | true=>cases decide (b.Spread≤b.Open∧b.Open≤240)<;>exact ⟨_,rfl,rfl⟩
theorem bonds_eq (L:List S_Bond) (hl:L.length≤1048576):∃v,spec_l24Ok L=some v∧impl_ValidBonds L=some v:=by
 obtain ⟨o,o1,o2,o3⟩:=two_loops (f:=spec_l24Ok_l2 L) (g:=impl_ValidBonds_l2 L) hl (fun i hi=>by
  obtain ⟨v,v1,v2⟩:=bond_tot L[i]
  have hc:(i:Int) < (L.length:Int):=by omega
  unfold spec_l24Ok_l2 impl_ValidBonds_l2
  rw [if_pos hc,if_pos hc,rd_lt hi,w64_succ (by omega)]
  simp only [Option.bind_some,v1,v2]
  cases v with
  | false=>exact ⟨false,rfl,rfl⟩
  | true=>
   by_cases c:(i:Int) >0
   ·simp only [if_pos c,if_true]
    rw [w64_pred (by omega) (by omega),rd_lt (show i - 1<L.length by omega)]
    simp only [Option.bind_some]
    cases (!Op.bytesLess (L[i - 1]'(by omega)).Name.toList (L[i]).Name.toList) with
    | true=>exact ⟨false,rfl,rfl⟩
    | false=>exact ⟨true,rfl,rfl⟩
   ·simp only [if_neg c,if_true,Option.bind_some]
    exact ⟨true,rfl,rfl⟩) (by unfold spec_l24Ok_l2;rw [if_neg (by omega)]) (by unfold impl_ValidBonds_l2;rw [if_neg (by omega)])
 unfold spec_l24Ok impl_ValidBonds
 rw [o1,o2]
 cases o<;>exact ⟨_,rfl,rfl⟩
theorem coat_tot (c:S_Coat):∃v,spec_l22One c=some v∧impl_ValidCoat c=some v:=by
 obtain ⟨n,p,q⟩:=name_eq c.Name
 unfold spec_l22One impl_ValidCoat
 simp only [p,q,in_eq,within_eq,Option.bind_some]
 cases n with
 | false=>exact ⟨_,rfl,rfl⟩
 | true=>
  cases decide (1≤c.Work∧c.Work≤32) with
  | false=>exact ⟨_,rfl,rfl⟩
  | true=>cases decide (0≤c.Dry∧c.Dry≤400)<;>exact ⟨_,rfl,rfl⟩
noncomputable def coatV (x:S_Coat):Bool:=(spec_l22One x).getD false
theorem coat_s (x:S_Coat):spec_l22One x=some (coatV x):=by
 obtain ⟨v,h,_⟩:=coat_tot x
 unfold coatV
 rw [h];rfl
theorem coat_i (x:S_Coat):impl_ValidCoat x=some (coatV x):=by
 obtain ⟨v,h,h2⟩:=coat_tot x
 unfold coatV
 rw [h,h2];rfl
theorem coats_eq (L:List S_Coat) (hl:L.length≤1048576):∃v,spec_l22Ok L=some v∧impl_ValidCoats L=some v:=by
 have h1:=all_loop (f:=spec_l22Ok_l2 L) L coatV hl (fun i hi=>by
  unfold spec_l22Ok_l2
  rw [if_pos (by omega),rd_lt hi,Option.bind_some,coat_s,Option.bind_some]) (by unfold spec_l22Ok_l2;rw [if_neg (by omega)])
 have h2:slices_ContainsFunc_impl_Coat_impl_Coat L (fun a0=>impl_ValidCoats_c1 a0)=some (!L.all coatV):=by
  unfold slices_ContainsFunc_impl_Coat_impl_Coat slices_IndexFunc_impl_Coat_impl_Coat
  rcases any_index (f:=slices_IndexFunc_impl_Coat_impl_Coat_l2 (fun a0=>impl_ValidCoats_c1 a0) L) L coatV hl (fun i hi=>by
   unfold slices_IndexFunc_impl_Coat_impl_Coat_l2 impl_ValidCoats_c1
   rw [if_pos (by omega),rd_lt hi,Option.bind_some]
   simp only [coat_i,Option.bind_some]) (by unfold slices_IndexFunc_impl_Coat_impl_Coat_l2;rw [if_neg (by omega)]) with ⟨a,b⟩ | ⟨a,k,b⟩
  ·rw [b,a];rfl
  ·rw [b,a]
   show some (decide ((k:Int)≥0))=_
   rw [decide_eq_true (by omega)]
   rfl
 unfold spec_l22Ok impl_ValidCoats
 rw [h1,h2]
 by_cases c:(L.length:Int)≤8
 ·rw [if_pos c]
  cases L.all coatV with
  | true=>exact ⟨true,congrArg some (decide_eq_true c),rfl⟩
  | false=>exact ⟨false,rfl,rfl⟩
 ·rw [if_neg c]
  cases L.all coatV with
  | true=>exact ⟨false,congrArg some (decide_eq_false c),rfl⟩
  | false=>exact ⟨false,rfl,rfl⟩
theorem rates_eq (r:S_Rates):∃v,spec_l28Ok r=some v∧impl_ValidRates r=some v:=by
 unfold spec_l28Ok impl_ValidRates
 simp only [in_eq,within_eq,Option.bind_some]
 cases decide (0≤r.Hour∧r.Hour≤100000) with
 | false=>exact ⟨_,rfl,rfl⟩
 | true=>
  cases decide (0≤r.Edge∧r.Edge≤1000) with
  | false=>exact ⟨_,rfl,rfl⟩
  | true=>
   cases decide (0≤r.Face∧r.Face≤1000) with
   | false=>exact ⟨_,rfl,rfl⟩
   | true=>cases decide (0≤r.Waste∧r.Waste≤300)<;>exact ⟨_,rfl,rfl⟩
theorem desk_eq (d:S_Desk) (hb:bd_S_Desk d):∃v,spec_ValidDesk d=some v∧impl_ValidDesk d=some v:=by
 obtain ⟨hj,⟨hb,_⟩,⟨hc,_⟩,_⟩:=hb
 obtain ⟨a,a1,a2⟩:=job_eq d.Job hj
 obtain ⟨b,b1,b2⟩:=bonds_eq d.Bonds hb
 obtain ⟨c,c1,c2⟩:=coats_eq d.Coats hc
 obtain ⟨r,r1,r2⟩:=rates_eq d.Rates
 unfold spec_ValidDesk spec_l32Ok impl_ValidDesk
 rw [a1,a2,b1,b2,c1,c2,r1,r2]
 cases a with
 | false=>exact ⟨_,rfl,rfl⟩
 | true=>
  cases b with
  | false=>exact ⟨_,rfl,rfl⟩
  | true=>cases c<;>exact ⟨_,rfl,rfl⟩
theorem law_ValidDesk (a:S_Desk) (wa:wf_S_Desk a):laws_FnExactValidDesk a=some true:=by
 unfold laws_FnExactValidDesk
 obtain ⟨v,v1,v2,v3⟩:=vd_szDesk a wa (left:=1048576) (by omega) (by omega)
 rw [v1,Option.bind_some]
 by_cases c1:v<0
 ·rw [if_pos c1]
 rw [if_neg c1]
 have ha:=v3.resolve_left c1
 obtain ⟨z,z1,z2⟩:=desk_eq a ha
 simp only [vd_toDesk a ha,z1,z2,vd_eqDesk a ha,Option.bind_some,if_true]
end Go.Pw
