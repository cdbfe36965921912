/- The plain law of FnTrapped. Conditions: none. -/
import Derived.Test.YtdibfdcmbjaejaaTtpT
import Derived.Test.YtdibfdcmbjaejaaSimPe
import Derived.Test.YtdibfdcmbjaejaaSimPn
import Derived.Test.YtdibfdcmbjaejaaSimRh
namespace Go.Pw
open Go.Sim (min2 max2)
set_option linter.unusedVariables false
set_option linter.unusedSimpArgs false
def bd_S_Point (x:S_Point):Prop:=True∧True
def bd_S_Face (x:S_Face):Prop:=x.Name.size≤1048576∧(x.Ring.length≤1048576∧∀a∈x.Ring,True)
def bd_S_Drawing (x:S_Drawing):Prop:=True∧True∧(x.Points.length≤1048576∧∀a∈x.Points,bd_S_Point a)∧(x.Faces.length≤1048576∧∀a∈x.Faces,bd_S_Face a)
theorem within_eq (n a b:Int):impl_within n a b=some (decide (a≤n∧n≤b)):=by
 unfold impl_within
 rw [Bool.decide_and]
theorem name_step (s:ByteArray) (i:Int):impl_IsName_l4 s i=spec_l01Name_l4 s i:=by
 unfold impl_IsName_l4 spec_l01Name_l4
 by_cases c:i< (s.size:Int)
 ·rw [if_pos c,if_pos c]
  cases bt s i with
  | none=>rfl
  | some x=>
   have d1:decide (x≥97)=!decide (x<97):=by rw [←decide_not];exact decide_eq_decide.2 (by omega)
   have d2:decide (x≤122)=!decide (x>122):=by rw [←decide_not];exact decide_eq_decide.2 (by omega)
   have d3:decide (x≥48)=!decide (x<48):=by rw [←decide_not];exact decide_eq_decide.2 (by omega)
   have d4:decide (x≤57)=!decide (x>57):=by rw [←decide_not];exact decide_eq_decide.2 (by omega)
   simp only [Option.bind_some,spec_l01Small,spec_l01Digit,d1,d2,d3,d4]
   by_cases c1:x<97<;>by_cases c2:x>122<;>by_cases c3:x<48<;>by_cases c4:x>57<;>simp [c1,c2,c3,c4]
 ·rw [if_neg c,if_neg c]
theorem name_eq (s:ByteArray):∃v,spec_l01Name s=some v∧impl_IsName s=some v:=by
 unfold spec_l01Name impl_IsName
 by_cases c0:s.size=0
 ·have hs:=size_zero c0
  refine ⟨false,?_,?_⟩
  ·rw [if_pos hs];rfl
  ·rw [if_pos (by omega)];rfl
 ·have hs:¬s=⟨#[]⟩:=fun h=>c0 (by rw [h];rfl)
  rw [if_neg hs,if_neg (show ¬((s.size:Int) <1) by omega)]
  by_cases c1:(s.size:Int) >10
  ·rw [if_pos c1,if_pos c1]
   exact ⟨false,rfl,rfl⟩
  ·rw [if_neg c1,if_neg c1]
   obtain ⟨b,hb,hb1,hb2⟩:=bt_some (s:=s) (i:=0) (by omega)
   have hb':bt s 0=some b:=hb
   rw [hb']
   have hloop:∃o,loopO (spec_l01Name_l4 s) 0=some o:=by
    refine scanEnds s.size (by omega) (fun i hi=>?_) ⟨.inl (),?_⟩
    ·obtain ⟨x,hx,_⟩:=bt_some (s:=s) hi
     unfold spec_l01Name_l4
     rw [if_pos (by omega),hx]
     simp only [Option.bind_some,spec_l01Small,spec_l01Digit]
     split
     ·simp
     ·simp only [Option.bind_some]
      split
      ·exact .inr ⟨_,rfl⟩
      ·exact .inl rfl
    ·unfold spec_l01Name_l4
     rw [if_neg (by omega)]
   obtain ⟨o,ho⟩:=hloop
   have ho2:loopO (impl_IsName_l4 s) 0=some o:=by rw [loopO_congr (name_step s)];exact ho
   rw [ho,ho2]
   have e:(if b<97 then some true else some (decide (b>122)))=some (!(decide (b≥97)&&decide (b≤122))):=by
    have d1:decide (b≥97)=!decide (b<97):=by rw [←decide_not];exact decide_eq_decide.2 (by omega)
    have d2:decide (b≤122)=!decide (b>122):=by rw [←decide_not];exact decide_eq_decide.2 (by omega)
    rw [d1,d2]
    by_cases c2:b<97<;>by_cases c3:b>122<;>simp [c2,c3]
   simp only [Option.bind_some,spec_l01Small]
   rw [e]
   simp only [Option.bind_some]
   split
   ·exact ⟨false,rfl,rfl⟩
   ·cases o with
    | inl u=>exact ⟨true,rfl,rfl⟩
    | inr r=>exact ⟨r,rfl,rfl⟩
theorem nm (s:ByteArray):impl_IsName s=spec_l01Name s:=by
 obtain ⟨v,h1,h2⟩:=name_eq s
 rw [h1,h2]
theorem vin (n a b:Int):spec_l00In n a b=impl_within n a b:=rfl
theorem vside (a b c:S_Point):spec_l02Side a b c=impl_side a b c:=by
 unfold spec_l02Side spec_l02Cross impl_side
 simp only [Option.bind_some]
theorem vmin (a b:Int):spec_l00Min a b=some (min2 a b):=by
 unfold spec_l00Min min2
 split<;>split<;>first | rfl | (congr 1;omega)
theorem vmax (a b:Int):spec_l00Max a b=some (max2 a b):=by
 unfold spec_l00Max max2
 split<;>split<;>first | rfl | (congr 1;omega)
theorem von (a b p:S_Point):spec_l02On a b p=impl_on a b p:=by
 unfold spec_l02On impl_on
 simp only [vside,vmin,vmax,vin,Option.bind_some]
theorem vcross (a b c d:S_Point):spec_l02Crosses a b c d=impl_crossing a b c d:=by
 unfold spec_l02Crosses impl_crossing
 simp only [vside]
theorem vmeet (a b c d:S_Point):spec_l03Meet a b c d=impl_touching a b c d:=by
 unfold spec_l03Meet impl_touching
 simp only [vcross,von]
theorem side_tot (a b c:S_Point):∃v,impl_side a b c=some v:=by
 unfold impl_side
 split
 ·exact ⟨_,rfl⟩
 ·split<;>exact ⟨_,rfl⟩
theorem on_tot (a b c:S_Point):∃v,impl_on a b c=some v:=by
 obtain ⟨x,hx⟩:=side_tot a b c
 unfold impl_on impl_within
 rw [hx]
 simp only [Option.bind_some]
 split
 ·split<;>exact ⟨_,rfl⟩
 ·exact ⟨_,rfl⟩
theorem cross_tot (a b c d:S_Point):∃v,impl_crossing a b c d=some v:=by
 obtain ⟨x,hx⟩:=side_tot a b c
 obtain ⟨y,hy⟩:=side_tot a b d
 obtain ⟨z,hz⟩:=side_tot c d a
 obtain ⟨w,hw⟩:=side_tot c d b
 unfold impl_crossing
 rw [hx,hy,hz,hw]
 simp only [Option.bind_some]
 split<;>exact ⟨_,rfl⟩
theorem touch_tot (a b c d:S_Point):∃v,impl_touching a b c d=some v:=by
 obtain ⟨x,hx⟩:=cross_tot a b c d
 obtain ⟨y,hy⟩:=on_tot a b c
 obtain ⟨z,hz⟩:=on_tot a b d
 obtain ⟨w,hw⟩:=on_tot c d a
 obtain ⟨u,hu⟩:=on_tot c d b
 unfold impl_touching
 rw [hx,hy,hz,hw,hu]
 simp only [Option.bind_some]
 cases x<;>cases y<;>cases z<;>cases w<;>exact ⟨_,rfl⟩
theorem md_nat {k n:Nat} (hn:0<n):md (k:Int) (n:Int)=some ((k % n:Nat):Int):=by
 unfold md
 rw [if_neg (by omega),Int.tmod_eq_emod_of_nonneg (by omega)]
 rfl
theorem rd_mod {α:Type} {p:List α} {k:Nat} (hp:0<p.length):∃x,rd p ((k % p.length:Nat):Int)=some x:=⟨_,rd_lt (Nat.mod_lt _ hp)⟩
theorem varea (p:List S_Point):spec_l03Area p=impl_doubled p:=by
 unfold spec_l03Area impl_doubled
 congr 1
 refine loopO_congr (fun s=>?_) _
 obtain ⟨a,i⟩:=s
 unfold spec_l03Area_l3 impl_doubled_l3
 simp only
 split
 ·cases h1:rd p i<;>cases h2:md (w64 (i+1)) (p.length:Int)<;>simp only [Option.bind_some,Option.bind_none]
  rename_i x y
  cases rd p y<;>rfl
 ·rfl
theorem area_tot (p:List S_Point) (hp:p.length≤1048576):∃v,impl_doubled p=some v:=by
 have:Ev (loopO (impl_doubled_l3 p) (0,0)) (fun _=>True):=by
  refine Ev.loop (fun s:Int×Int=>0≤s.2∧s.2≤(p.length:Int)) (fun s:Int×Int=>((p.length:Int) - s.2).toNat) ?_ ⟨Int.le_refl _,by simp only;omega⟩
  rintro ⟨a,i⟩ ⟨i0,i1⟩
  unfold impl_doubled_l3
  simp only at i0 i1 ⊢
  refine Ev.ite (fun hc=>?_) fun _=>Ev.ret trivial
  obtain ⟨j,rfl⟩:∃j:Nat,i=(j:Int):=⟨i.toNat,by omega⟩
  refine Ev.bind (Ev.rd i0 hc) fun x _=>?_
  rw [w64_succ (by omega),md_nat (by omega)]
  obtain ⟨y,hy⟩:=rd_mod (p:=p) (k:=j+1) (by omega)
  simp only [Option.bind_some,hy]
  exact Ev.ret ⟨⟨by simp only;omega,by simp only;omega⟩,by simp only;omega⟩
 obtain ⟨v,hv,_⟩:=this
 unfold impl_doubled
 rw [hv]
 exact ⟨_,rfl⟩
theorem pt_tot (p:S_Point):∃v,impl_ValidPoint p=some v:=by
 unfold impl_ValidPoint impl_within
 simp only [Option.bind_some]
 split<;>exact ⟨_,rfl⟩
theorem pts_ok (p:List S_Point) (hp:p.length≤1048576):loopO (impl_validPoints_l2 p) 0=some (.inl ())∨loopO (impl_validPoints_l2 p) 0=some (.inr false):=by
 rcases validL (f:=impl_validPoints_l2 p) p (fun _=>True) (by omega) (fun i hi=>by
  unfold impl_validPoints_l2
  rw [if_pos (by omega),rd_lt hi,Option.bind_some]
  obtain ⟨v,hv⟩:=pt_tot p[i]
  rw [hv,Option.bind_some]
  cases v
  ·exact .inr rfl
  ·exact .inl ⟨rfl,trivial⟩) (by unfold impl_validPoints_l2;rw [if_neg (by omega)]) with ⟨h,_⟩ | h
 ·exact .inl h
 ·exact .inr h
theorem vedge (p:List S_Point) (i:Int) (x y:S_Point):spec_l03Ok_l18 i p x y=impl_ValidPolygon_l11 p i x y:=by
 funext k
 unfold spec_l03Ok_l18 impl_ValidPolygon_l11
 simp only [vmeet]
theorem vcorner (p:List S_Point):spec_l03Ok_l10 p=impl_ValidPolygon_l5 p:=by
 funext i
 unfold spec_l03Ok_l10 impl_ValidPolygon_l5
 simp only [von,vedge]
theorem vpts (p:List S_Point):spec_l03Ok_l5 p=impl_validPoints_l2 p:=rfl
theorem edge_tot (p:List S_Point) (hp:p.length≤1048576) (i:Int) (x y:S_Point) {k:Int} (hk:0≤k):∃o,loopO (impl_ValidPolygon_l11 p i x y) k=some o:=by
 have:Ev (loopO (impl_ValidPolygon_l11 p i x y) k) (fun _=>True):=by
  refine Ev.loop (fun s=>0≤s) (fun s=>((p.length:Int) - s).toNat) ?_ hk
  intro s h0
  unfold impl_ValidPolygon_l11
  refine Ev.ite (fun hc=>?_) fun _=>Ev.ret trivial
  obtain ⟨j,rfl⟩:∃j:Nat,s=(j:Int):=⟨s.toNat,by omega⟩
  rw [w64_succ (by omega),md_nat (by omega)]
  obtain ⟨y2,hy⟩:=rd_mod (p:=p) (k:=j+1) (by omega)
  simp only [Option.bind_some,hy,rd_lt (show j<p.length by omega)]
  obtain ⟨v,hv⟩:=touch_tot x y p[j] y2
  rw [hv]
  simp only [Option.bind_some]
  refine Ev.bind (P:=fun _=>True) (Ev.ite (fun _=>Ev.ret trivial) fun _=>Ev.ret trivial) fun t _=>?_
  exact Ev.ite (fun _=>Ev.ret trivial) fun _=>Ev.ret ⟨by omega,by omega⟩
 obtain ⟨v,hv,_⟩:=this
 exact ⟨v,hv⟩
theorem corner_tot (p:List S_Point) (hp:p.length≤1048576):∃o,loopO (impl_ValidPolygon_l5 p) 0=some o:=by
 refine scanEnds p.length (by omega) (fun i hi=>?_) ⟨_,by unfold impl_ValidPolygon_l5;rw [if_neg (by omega)]⟩
 unfold impl_ValidPolygon_l5
 obtain ⟨y,hy⟩:=rd_mod (p:=p) (k:=i+1) (by omega)
 obtain ⟨z,hz⟩:=rd_mod (p:=p) (k:=i+2) (by omega)
 have e2:w64 ((i:Int)+2)=((i+2:Nat):Int):=by rw [w64_id (by omega) (by omega)];omega
 rw [if_pos (by omega),w64_succ (by omega),e2,md_nat (by omega),md_nat (by omega),rd_lt hi]
 simp only [Option.bind_some,hy,hz]
 obtain ⟨u,hu⟩:=on_tot p[i] y z
 obtain ⟨v,hv⟩:=on_tot y z p[i]
 obtain ⟨o,ho⟩:=edge_tot p hp (i:Int) p[i] y (k:=((i+2:Nat):Int)) (by omega)
 rw [hu,hv,ho]
 simp only [Option.bind_some]
 have fin:∀t:Bool,(if t=true then (some (.inr (.inr false)):Option (Int ⊕ (Unit ⊕ Bool))) else (match (generalizing:=false) o with | .inl _=>some (.inl ((i+1:Nat):Int)) | .inr r2=>some (.inr (.inr r2))))=some (.inl (((i+1:Nat):Int)))∨∃r,(if t=true then (some (.inr (.inr false)):Option (Int ⊕ (Unit ⊕ Bool))) else (match (generalizing:=false) o with | .inl _=>some (.inl ((i+1:Nat):Int)) | .inr r2=>some (.inr (.inr r2))))=some (.inr r):=by
  intro t
  cases t
  ·cases o
   ·exact .inl rfl
   ·exact .inr ⟨_,rfl⟩
  ·exact .inr ⟨_,rfl⟩
 split
 ·exact fin true
 ·cases u
  ·exact fin v
  ·exact fin true
theorem poly_ok (p:List S_Point) (hp:p.length≤1048576):∃v,spec_l03Ok p=some v∧impl_ValidPolygon p=some v:=by
 unfold spec_l03Ok impl_ValidPolygon impl_validPoints
 simp only [vpts,vcorner,varea]
 by_cases c1:(p.length:Int) <3
 ·rw [if_pos (.inl c1),if_pos c1]
  exact ⟨_,rfl,rfl⟩
 by_cases c2:(p.length:Int) >24
 ·rw [if_pos (.inr c2),if_neg c1,if_pos c2]
  exact ⟨_,rfl,rfl⟩
 rw [if_neg (fun h=>h.elim c1 c2),if_neg c1,if_neg c2]
 obtain ⟨o,ho⟩:=corner_tot p hp
 obtain ⟨a,ha⟩:=area_tot p hp
 rw [ho,ha]
 rcases pts_ok p hp with h | h<;>rw [h]
 ·cases o<;>exact ⟨_,rfl,rfl⟩
 ·exact ⟨_,rfl,rfl⟩
theorem two_loops {f g:Int→Option (Int ⊕ (Unit ⊕ Bool))} {n:Nat} (hn:n≤1048576)
 (h:∀i:Nat,i<n→∃w:Bool,f (i:Int)=(if w=true then some (.inl (((i+1:Nat):Int))) else some (.inr (.inr false)))∧g (i:Int)=(if w=true then some (.inl (((i+1:Nat):Int))) else some (.inr (.inr false))))
 (hf:f (n:Int)=some (.inr (.inl ()))) (hg:g (n:Int)=some (.inr (.inl ()))):∃o,loopO f 0=some o∧loopO g 0=some o∧(o= .inl ()∨o= .inr false):=by
 have key:∀(m i:Nat),i+m=n→∃o,loopO f (i:Int)=some o∧loopO g (i:Int)=some o∧(o= .inl ()∨o= .inr false):=by
  intro m
  induction m with
  | zero=>
   intro i hi
   obtain rfl:i=n:=by omega
   exact ⟨_,loopO_done hf,loopO_done hg,.inl rfl⟩
  | succ m ih=>
   intro i hi
   obtain ⟨w,w1,w2⟩:=h i (by omega)
   cases w with
   | true=>
    rw [if_pos rfl] at w1 w2
    rw [loopO_next w1,loopO_next w2]
    exact ih (i+1) (by omega)
   | false=>exact ⟨_,loopO_done w1,loopO_done w2,.inr rfl⟩
 exact key n 0 (by omega)
theorem vring (d:S_Drawing) (ring:List Int):spec_l05Ring d ring=impl_ringPolygon d.Points ring:=by
 unfold spec_l05Ring impl_ringPolygon
 congr 1
 refine loopO_congr (fun s=>?_) _
 obtain ⟨i,out⟩:=s
 unfold spec_l05Ring_l3 impl_ringPolygon_l3
 simp only [vin]
 split
 ·cases rd ring i with
  | none=>rfl
  | some x=>rfl
 ·rfl
theorem ring_ev (pts:List S_Point) (ring:List Int) (hp:pts.length≤1048576) (hr:ring.length≤1048576):Ev (impl_ringPolygon pts ring) (fun r=>r.1.length≤1048576):=by
 unfold impl_ringPolygon
 refine Ev.bind (P:=fun o=>match o with | .inl l=>l.length≤1048576 | .inr r=>r.1.length≤1048576) (Ev.loop (fun s:Int×List S_Point=>0≤s.1∧s.1≤(ring.length:Int)∧(s.2.length:Int)≤s.1) (fun s:Int×List S_Point=>((ring.length:Int) - s.1).toNat) ?_ ⟨Int.le_refl _,by simp only;omega,by simp⟩) fun o ho=>?_
 ·rintro ⟨i,out⟩ ⟨i0,i1,i2⟩
  unfold impl_ringPolygon_l3 impl_within
  simp only at i0 i1 i2 ⊢
  refine Ev.ite (fun hc=>?_) fun _=>Ev.ret (by simp only;omega)
  refine Ev.bind (Ev.rd i0 hc) fun x _=>?_
  simp only [Option.bind_some,Bool.and_eq_true,decide_eq_true_eq]
  refine Ev.ite (fun hx=>?_) fun _=>Ev.ret (by simp)
  have e:w64 ((pts.length:Int) - 1)=(pts.length:Int) - 1:=w64_id (by omega) (by omega)
  rw [e] at hx
  refine Ev.bind (Ev.rd hx.1 (by omega)) fun y _=>?_
  refine Ev.bind (Ev.apd (by simp;omega)) fun l hl=>?_
  subst hl
  rw [w64_id (n:=i+1) (by omega) (by omega)]
  exact Ev.ret ⟨⟨by simp only;omega,by simp only;omega,by simp only [List.length_append,List.length_singleton];omega⟩,by simp only;omega⟩
 ·cases o with
  | inl l=>exact Ev.ret ho
  | inr r=>exact Ev.ret ho
theorem vdup (d:S_Drawing) {i:Nat} (hi:i<d.Points.length) (hp:d.Points.length≤1048576):
 ∃b:Bool,loopO (spec_l05Points_l9 d (i:Int)) 0=some (if b=true then .inr false else .inl ())∧slices_Contains_impl_Point_impl_Point (d.Points.take i) d.Points[i]=some b:=by
 have hl:(d.Points.take i).length=i:=by rw [List.length_take];omega
 have e1:=scanFind (f:=spec_l05Points_l9 d (i:Int)) (d.Points.take i) (fun x=>decide (d.Points[i].X=x.X∧d.Points[i].Y=x.Y)) (fun _=>false) (by omega) (fun k hk=>by
  unfold spec_l05Points_l9
  rw [if_pos (by omega),rd_lt hi,Option.bind_some,rd_lt (show k<d.Points.length by omega),Option.bind_some,List.getElem_take]
  by_cases c:d.Points[i].X=(d.Points[k]'(by omega)).X∧d.Points[i].Y=(d.Points[k]'(by omega)).Y
  ·rw [if_pos c,if_pos (decide_eq_true c)]
  ·rw [if_neg c,if_neg (by simpa using c)]) (by unfold spec_l05Points_l9;rw [if_neg (by omega)])
 have e2:=scanFind (f:=slices_Index_impl_Point_impl_Point_l2 (d.Points.take i) d.Points[i]) (d.Points.take i) (fun x=>decide (d.Points[i].X=x.X∧d.Points[i].Y=x.Y)) (fun k=>(k:Int)) (by omega) (fun k hk=>by
  unfold slices_Index_impl_Point_impl_Point_l2
  rw [if_pos (by omega),rd_lt hk,Option.bind_some]
  by_cases c:d.Points[i].X=(d.Points.take i)[k].X∧d.Points[i].Y=(d.Points.take i)[k].Y
  ·rw [if_pos c,if_pos (decide_eq_true c)]
  ·rw [if_neg c,if_neg (by simpa using c)]) (by unfold slices_Index_impl_Point_impl_Point_l2;rw [if_neg (by omega)])
 unfold slices_Contains_impl_Point_impl_Point slices_Index_impl_Point_impl_Point
 rcases e1 with ⟨a1,a2⟩ | ⟨k,hk,a1,_,a2⟩<;>rcases e2 with ⟨b1,b2⟩ | ⟨m,hm,b1,_,b2⟩
 ·exact ⟨false,by rw [a2];rfl,by rw [b2];rfl⟩
 ·have:=a1 _ (List.getElem_mem hm)
  rw [b1] at this
  cases this
 ·have:=b1 _ (List.getElem_mem hk)
  rw [a1] at this
  cases this
 ·refine ⟨true,by rw [a2];rfl,?_⟩
  rw [b2]
  show some (decide ((m:Int)≥0))=_
  rw [decide_eq_true (by omega)]
theorem pts_step (d:S_Drawing) (hp:d.Points.length≤1048576) {i:Nat} (hi:i<d.Points.length):
 ∃w:Bool,spec_l05Points_l4 d (i:Int)=(if w=true then some (.inl (((i+1:Nat):Int))) else some (.inr (.inr false)))∧impl_ValidDrawing_l4 d (i:Int)=(if w=true then some (.inl (((i+1:Nat):Int))) else some (.inr (.inr false))):=by
 obtain ⟨b,b1,b2⟩:=vdup d hi hp
 have hs:slc d.Points 0 (i:Int)=some (d.Points.take i):=by
  unfold slc
  rw [if_pos ⟨by omega,by omega,by omega⟩]
  simp
 unfold spec_l05Points_l4 impl_ValidDrawing_l4 impl_within spec_l00In
 rw [if_pos (by omega),if_pos (by omega),rd_lt hi,b1,hs,w64_succ (by omega)]
 simp only [Option.bind_some,b2]
 cases (decide (d.Points[i].X≥0)&&decide (d.Points[i].X≤d.Width)) with
 | false=>exact ⟨false,rfl,rfl⟩
 | true=>
  cases (decide (d.Points[i].Y≥0)&&decide (d.Points[i].Y≤d.Height)) with
  | false=>exact ⟨false,rfl,rfl⟩
  | true=>
   cases b with
   | true=>exact ⟨false,rfl,rfl⟩
   | false=>exact ⟨true,rfl,rfl⟩
theorem face_step (d:S_Drawing) (hb:bd_S_Drawing d) {i:Nat} (hi:i<d.Faces.length):
 ∃w:Bool,spec_l05Ok_l4 d (i:Int)=(if w=true then some (.inl (((i+1:Nat):Int))) else some (.inr (.inr false)))∧impl_ValidDrawing_l10 d (i:Int)=(if w=true then some (.inl (((i+1:Nat):Int))) else some (.inr (.inr false))):=by
 obtain ⟨_,_,⟨hp,_⟩,⟨hf,hF⟩⟩:=hb
 obtain ⟨n,n1,n2⟩:=name_eq (d.Faces[i]).Name
 obtain ⟨r,r1,r2⟩:=ring_ev d.Points (d.Faces[i]).Ring hp (hF _ (List.getElem_mem hi)).2.1
 obtain ⟨q,q1,q2⟩:=poly_ok r.1 r2
 have hc:(i:Int) < (d.Faces.length:Int):=by omega
 unfold spec_l05Ok_l4 impl_ValidDrawing_l10
 rw [if_pos hc,if_pos hc,rd_lt hi,w64_succ (by omega)]
 simp only [Option.bind_some,vring,r1,q1,q2,n1,n2]
 have tail:∀t:Bool,∃w:Bool,(if t=true then (some (.inr (.inr false)):Option (Int ⊕ (Unit ⊕ Bool))) else (if r.2=true then some (!q) else some true).bind fun t_95_m9=>if t_95_m9=true then some (.inr (.inr false)) else some (.inl ((i+1:Nat):Int)))=(if w=true then some (.inl (((i+1:Nat):Int))) else some (.inr (.inr false))):=by
  intro t
  cases t
  ·cases r.2
   ·exact ⟨false,rfl⟩
   ·cases q
    ·exact ⟨false,rfl⟩
    ·exact ⟨true,rfl⟩
  ·exact ⟨false,rfl⟩
 cases n with
 | false=>exact ⟨false,rfl,rfl⟩
 | true=>
  by_cases c:(i:Int) >0
  ·simp only [if_pos c,if_true]
   rw [w64_pred (by omega) (by omega),rd_lt (show i - 1<d.Faces.length by omega)]
   simp only [Option.bind_some]
   obtain ⟨w,hw⟩:=tail (!Op.bytesLess (d.Faces[i - 1]'(by omega)).Name.toList (d.Faces[i]).Name.toList)
   exact ⟨w,hw,hw⟩
  ·simp only [if_neg c,if_true,Option.bind_some]
   obtain ⟨w,hw⟩:=tail false
   exact ⟨w,hw,hw⟩
theorem draw_ok (d:S_Drawing) (hb:bd_S_Drawing d):∃v,spec_l05Ok d=some v∧impl_ValidDrawing d=some v:=by
 obtain ⟨_,_,⟨hp,_⟩,⟨hf,_⟩⟩:=id hb
 obtain ⟨o1,p1,p2,p3⟩:=two_loops (f:=spec_l05Points_l4 d) (g:=impl_ValidDrawing_l4 d) hp (fun i hi=>pts_step d hp hi) (by unfold spec_l05Points_l4;rw [if_neg (by omega)]) (by unfold impl_ValidDrawing_l4;rw [if_neg (by omega)])
 obtain ⟨o2,f1,f2,f3⟩:=two_loops (f:=spec_l05Ok_l4 d) (g:=impl_ValidDrawing_l10 d) hf (fun i hi=>face_step d hb hi) (by unfold spec_l05Ok_l4;rw [if_neg (by omega)]) (by unfold impl_ValidDrawing_l10;rw [if_neg (by omega)])
 unfold spec_l05Ok impl_ValidDrawing spec_l05Points
 rw [p1,p2,f1,f2]
 simp only [vin,impl_within,Option.bind_some]
 cases (decide (d.Width≥10)&&decide (d.Width≤20000)) with
 | false=>exact ⟨false,rfl,rfl⟩
 | true=>
  cases (decide (d.Height≥10)&&decide (d.Height≤20000)) with
  | false=>exact ⟨false,rfl,rfl⟩
  | true=>
   by_cases c1:(d.Points.length:Int) >48
   ·simp only [if_pos c1]
    exact ⟨false,rfl,rfl⟩
   ·simp only [if_neg c1]
    cases decide ((d.Faces.length:Int) >24) with
    | true=>rcases p3 with rfl | rfl<;>exact ⟨false,rfl,rfl⟩
    | false=>rcases p3 with rfl | rfl<;>rcases f3 with rfl | rfl<;>exact ⟨_,rfl,rfl⟩
def cr (a b c:S_Point):Int:=(b.X - a.X) * (c.Y - a.Y) - (b.Y - a.Y) * (c.X - a.X)
def Pt (a:S_Point):Prop:=0≤a.X∧a.X≤20000∧0≤a.Y∧a.Y≤20000
theorem cr_cyc (a b c:S_Point):cr b c a=cr a b c:=by
 unfold cr
 simp only [Int.sub_mul,Int.mul_sub]
 have e1:=Int.mul_comm c.X a.Y
 have e2:=Int.mul_comm c.Y a.X
 have e3:=Int.mul_comm c.X b.Y
 have e4:=Int.mul_comm c.Y b.X
 have e5:=Int.mul_comm b.X a.Y
 have e6:=Int.mul_comm b.Y a.X
 have e7:=Int.mul_comm b.X b.Y
 have e8:=Int.mul_comm c.X c.Y
 have e9:=Int.mul_comm a.X a.Y
 omega
theorem mul_bd {x y:Int} (h1:-20000≤x) (h2:x≤20000) (h3:-20000≤y) (h4:y≤20000):-400000000≤x*y∧x*y≤400000000:=by
 have a1:0≤(20000 - x) * (20000+y):=Int.mul_nonneg (by omega) (by omega)
 have a2:0≤(20000+x) * (20000 - y):=Int.mul_nonneg (by omega) (by omega)
 have a3:0≤(20000 - x) * (20000 - y):=Int.mul_nonneg (by omega) (by omega)
 have a4:0≤(20000+x) * (20000+y):=Int.mul_nonneg (by omega) (by omega)
 simp only [Int.sub_mul,Int.mul_sub,Int.add_mul,Int.mul_add] at a1 a2 a3 a4
 have e:=Int.mul_comm x 20000
 constructor<;>omega
theorem side_pos {a b c:S_Point} (ha:Pt a) (hb:Pt b) (hc:Pt c) (h:0<cr a b c):impl_side a b c=some 1:=by
 obtain ⟨a1,a2,a3,a4⟩:=ha
 obtain ⟨b1,b2,b3,b4⟩:=hb
 obtain ⟨c1,c2,c3,c4⟩:=hc
 unfold cr at h
 obtain ⟨m1,m2⟩:=mul_bd (x:=b.X - a.X) (y:=c.Y - a.Y) (by omega) (by omega) (by omega) (by omega)
 obtain ⟨m3,m4⟩:=mul_bd (x:=b.Y - a.Y) (y:=c.X - a.X) (by omega) (by omega) (by omega) (by omega)
 unfold impl_side
 rw [w64_id (n:=b.X - a.X) (by omega) (by omega),w64_id (n:=c.Y - a.Y) (by omega) (by omega),w64_id (n:=b.Y - a.Y) (by omega) (by omega),w64_id (n:=c.X - a.X) (by omega) (by omega)]
 generalize (b.X - a.X) * (c.Y - a.Y)=p at*
 generalize (b.Y - a.Y) * (c.X - a.X)=q at*
 rw [w64_id (n:=p) (by omega) (by omega),w64_id (n:=q) (by omega) (by omega),w64_id (n:=p - q) (by omega) (by omega),if_pos (by omega)]
theorem on_pos {a b c:S_Point} (ha:Pt a) (hb:Pt b) (hc:Pt c) (h:0<cr a b c):impl_on a b c=some false:=by
 unfold impl_on
 rw [side_pos ha hb hc h,Option.bind_some,if_neg (by decide)]
 rfl
theorem touch_neg {a b c d:S_Point} (ha:Pt a) (hb:Pt b) (hc:Pt c) (hd:Pt d) (h1:0<cr a b c) (h2:0<cr a b d) (h3:0<cr c d a) (h4:0<cr c d b):impl_touching a b c d=some false:=by
 unfold impl_touching impl_crossing
 rw [side_pos ha hb hc h1,side_pos ha hb hd h2,on_pos ha hb hc h1,on_pos ha hb hd h2,on_pos hc hd ha h3,on_pos hc hd hb h4]
 rfl
theorem ne_of_cr {a b c:S_Point} (h:0<cr a b c):¬(a.X=b.X∧a.Y=b.Y):=by
 rintro ⟨h1,h2⟩
 unfold cr at h
 rw [h1,h2,Int.sub_self,Int.sub_self,Int.zero_mul,Int.zero_mul] at h
 omega
theorem vpt_ok {a:S_Point} (ha:Pt a):impl_ValidPoint a=some true:=by
 obtain ⟨a1,a2,a3,a4⟩:=ha
 unfold impl_ValidPoint
 rw [within_eq,within_eq,decide_eq_true ⟨a1,a2⟩,decide_eq_true ⟨a3,a4⟩]
 rfl
theorem vpts_ok (p:List S_Point) (hp:p.length≤1048576) (h:∀a∈p,Pt a):impl_validPoints p=some true:=by
 unfold impl_validPoints
 have:=loopO_for (f:=impl_validPoints_l2 p) (fun i:Nat=>(i:Int)) p.length (r:= .inl ()) (fun i hi=>by
  unfold impl_validPoints_l2
  rw [if_pos (by omega),rd_lt hi,Option.bind_some,vpt_ok (h _ (List.getElem_mem hi)),Option.bind_some,if_pos rfl,w64_succ (by omega)]) (by
  unfold impl_validPoints_l2
  rw [if_neg (by omega)])
 have this:loopO (impl_validPoints_l2 p) 0=some (.inl ()):=this
 rw [this]
 rfl
theorem corner_ok {p:List S_Point} {i:Nat} {a b c:S_Point} (hn:p.length≤24) (h0:rd p (i:Int)=some a) (h1:rd p (((i+1) % p.length:Nat):Int)=some b) (h2:rd p (((i+2) % p.length:Nat):Int)=some c)
 (ha:Pt a) (hb:Pt b) (hc:Pt c) (h:0<cr a b c) (hi:i<p.length) (hl:loopO (impl_ValidPolygon_l11 p (i:Int) a b) ((i+2:Nat):Int)=some (.inl ())):impl_ValidPolygon_l5 p (i:Int)=some (.inl ((i+1:Nat):Int)):=by
 unfold impl_ValidPolygon_l5
 have w2:w64 ((i:Int)+2)=((i+2:Nat):Int):=by rw [w64_id (by omega) (by omega)];omega
 rw [if_pos (by omega),h0,Option.bind_some,w64_succ (by omega),md_nat (by omega),Option.bind_some,h1,Option.bind_some,w2,md_nat (by omega),Option.bind_some,h2,Option.bind_some,if_neg (ne_of_cr h),on_pos ha hb hc h,Option.bind_some,if_neg (by decide),on_pos hb hc ha (by rw [cr_cyc];exact h)]
 simp only [Option.bind_some]
 rw [if_neg (by decide),hl]
 rfl
theorem edge_end {p:List S_Point} {i k:Nat} {a b:S_Point} (hk:p.length≤k):loopO (impl_ValidPolygon_l11 p (i:Int) a b) (k:Int)=some (.inl ()):=by
 refine loopO_done ?_
 unfold impl_ValidPolygon_l11
 rw [if_neg (by omega)]
theorem edge_skip {p:List S_Point} {i k:Nat} {a b:S_Point} (hn:p.length≤24) (hk:k<p.length) (he:(k+1) % p.length=i) (h:loopO (impl_ValidPolygon_l11 p (i:Int) a b) ((k+1:Nat):Int)=some (.inl ())):loopO (impl_ValidPolygon_l11 p (i:Int) a b) (k:Int)=some (.inl ()):=by
 rw [loopO_next (s':=((k+1:Nat):Int))]
 ·exact h
 ·unfold impl_ValidPolygon_l11
  rw [if_pos (by omega),w64_succ (by omega),md_nat (by omega),Option.bind_some,if_neg (by rw [he];simp)]
  rfl
theorem edge_step {p:List S_Point} {i k:Nat} {a b c d:S_Point} (hn:p.length≤24) (hk:k<p.length) (he:(k+1) % p.length≠i) (h0:rd p (k:Int)=some c) (h1:rd p (((k+1) % p.length:Nat):Int)=some d) (ht:impl_touching a b c d=some false)
 (h:loopO (impl_ValidPolygon_l11 p (i:Int) a b) ((k+1:Nat):Int)=some (.inl ())):loopO (impl_ValidPolygon_l11 p (i:Int) a b) (k:Int)=some (.inl ()):=by
 rw [loopO_next (s':=((k+1:Nat):Int))]
 ·exact h
 ·unfold impl_ValidPolygon_l11
  rw [if_pos (by omega),w64_succ (by omega),md_nat (by omega),Option.bind_some,if_pos (by omega),h0,Option.bind_some,Option.bind_some,h1,Option.bind_some,ht]
  rfl
def cx (a b:S_Point):Int:=a.X*b.Y - a.Y*b.X
theorem cx_w {a b:S_Point} (ha:Pt a) (hb:Pt b):w64 ((w64 (a.X*b.Y)) - (w64 (a.Y*b.X)))=cx a b∧-800000000≤cx a b∧cx a b≤800000000:=by
 obtain ⟨a1,a2,a3,a4⟩:=ha
 obtain ⟨b1,b2,b3,b4⟩:=hb
 obtain ⟨m1,m2⟩:=mul_bd (x:=a.X) (y:=b.Y) (by omega) (by omega) (by omega) (by omega)
 obtain ⟨m3,m4⟩:=mul_bd (x:=a.Y) (y:=b.X) (by omega) (by omega) (by omega) (by omega)
 unfold cx
 rw [w64_id (n:=a.X*b.Y) (by omega) (by omega),w64_id (n:=a.Y*b.X) (by omega) (by omega),w64_id (n:=a.X*b.Y - a.Y*b.X) (by omega) (by omega)]
 exact ⟨rfl,by omega,by omega⟩
theorem dbl_step {p:List S_Point} {i:Nat} {a b:S_Point} {s:Int} (hn:p.length≤24) (hi:i<p.length) (h0:rd p (i:Int)=some a) (h1:rd p (((i+1) % p.length:Nat):Int)=some b) (ha:Pt a) (hb:Pt b) (hs0:-100000000000≤s) (hs1:s≤100000000000):
 impl_doubled_l3 p (s,(i:Int))=some (.inl (s+cx a b,((i+1:Nat):Int))):=by
 obtain ⟨e,e1,e2⟩:=cx_w ha hb
 unfold impl_doubled_l3
 simp only
 rw [if_pos (by omega),h0,Option.bind_some,w64_succ (by omega),md_nat (by omega),Option.bind_some,h1,Option.bind_some,e,w64_id (n:=s+cx a b) (by omega) (by omega)]
theorem dbl_end {p:List S_Point} {s:Int}:impl_doubled_l3 p (s,(p.length:Int))=some (.inr s):=by
 unfold impl_doubled_l3
 simp only
 rw [if_neg (by omega)]
theorem cx_cr (a b c:S_Point):cx a b+cx b c+cx c a=cr a b c:=by
 unfold cx cr
 simp only [Int.sub_mul,Int.mul_sub]
 have e1:=Int.mul_comm c.X a.Y
 have e2:=Int.mul_comm c.Y a.X
 have e3:=Int.mul_comm c.X b.Y
 have e4:=Int.mul_comm c.Y b.X
 have e5:=Int.mul_comm b.X a.Y
 have e6:=Int.mul_comm b.Y a.X
 have e9:=Int.mul_comm a.X a.Y
 omega
theorem poly3 {a b c:S_Point} (ha:Pt a) (hb:Pt b) (hc:Pt c) (h:0<cr a b c):impl_ValidPolygon [a,b,c]=some true:=by
 have hv:=vpts_ok [a,b,c] (by simp) (by simp [ha,hb,hc])
 have hbc:0<cr b c a:=by rw [cr_cyc];exact h
 have hca:0<cr c a b:=by rw [cr_cyc,cr_cyc];exact h
 have l0:loopO (impl_ValidPolygon_l11 [a,b,c] ((0:Nat):Int) a b) ((0+2:Nat):Int)=some (.inl ()):=edge_skip (k:=2) (by simp) (by simp) (by simp) (edge_end (by simp))
 have c0:=corner_ok (p:=[a,b,c]) (i:=0) (by simp) (by simp [rd]) (by simp [rd]) (by simp [rd]) ha hb hc h (by simp) l0
 have c1:=corner_ok (p:=[a,b,c]) (i:=1) (by simp) (by simp [rd]) (by simp [rd]) (by simp [rd]) hb hc ha hbc (by simp) (edge_end (by simp))
 have c2:=corner_ok (p:=[a,b,c]) (i:=2) (by simp) (by simp [rd]) (by simp [rd]) (by simp [rd]) hc ha hb hca (by simp) (edge_end (by simp))
 have hl:loopO (impl_ValidPolygon_l5 [a,b,c]) 0=some (.inl ()):=by
  have c0':impl_ValidPolygon_l5 [a,b,c] 0=_:=c0
  rw [loopO_next c0',loopO_next c1,loopO_next c2]
  refine loopO_done ?_
  unfold impl_ValidPolygon_l5
  rw [if_neg (by simp)]
 have hd:impl_doubled [a,b,c]=some (cr a b c):=by
  obtain ⟨_,e1,e2⟩:=cx_w ha hb
  obtain ⟨_,e3,e4⟩:=cx_w hb hc
  have d0:=dbl_step (p:=[a,b,c]) (i:=0) (s:=0) (by simp) (by simp) (by simp [rd]) (by simp [rd]) ha hb (by omega) (by omega)
  have d1:=dbl_step (p:=[a,b,c]) (i:=1) (s:=0+cx a b) (by simp) (by simp) (by simp [rd]) (by simp [rd]) hb hc (by omega) (by omega)
  have d2:=dbl_step (p:=[a,b,c]) (i:=2) (s:=0+cx a b+cx b c) (by simp) (by simp) (by simp [rd]) (by simp [rd]) hc ha (by omega) (by omega)
  have d0':impl_doubled_l3 [a,b,c] (0,0)=_:=d0
  have d3:impl_doubled_l3 [a,b,c] (0+cx a b+cx b c+cx c a,((2+1:Nat):Int))=_:=dbl_end
  unfold impl_doubled
  rw [loopO_next d0',loopO_next d1,loopO_next d2,loopO_done d3,Option.bind_some,←cx_cr,Int.zero_add]
 unfold impl_ValidPolygon
 rw [if_neg (by simp),if_neg (by simp),hv]
 simp only [Option.bind_some,Bool.not_true,Bool.false_eq_true,if_false]
 rw [hl]
 simp only [Option.bind_some]
 rw [hd,Option.bind_some,decide_eq_true h]
theorem poly4 {a b c d:S_Point} (ha:Pt a) (hb:Pt b) (hc:Pt c) (hd:Pt d) (h1:0<cr a b c) (h2:0<cr b c d) (h3:0<cr c d a) (h4:0<cr d a b):impl_ValidPolygon [a,b,c,d]=some true:=by
 have hv:=vpts_ok [a,b,c,d] (by simp) (by simp [ha,hb,hc,hd])
 have abd:0<cr a b d:=by rw [cr_cyc];exact h4
 have cdb:0<cr c d b:=by rw [cr_cyc];exact h2
 have bca:0<cr b c a:=by rw [cr_cyc];exact h1
 have dac:0<cr d a c:=by rw [cr_cyc];exact h3
 have t1:impl_touching a b c d=some false:=touch_neg ha hb hc hd h1 abd h3 cdb
 have t2:impl_touching b c d a=some false:=touch_neg hb hc hd ha h2 bca h4 dac
 have l0:loopO (impl_ValidPolygon_l11 [a,b,c,d] ((0:Nat):Int) a b) ((0+2:Nat):Int)=some (.inl ()):=
  edge_step (k:=2) (by simp) (by simp) (by simp) (by simp [rd]) (by simp [rd]) t1 (edge_skip (k:=3) (by simp) (by simp) (by simp) (edge_end (by simp)))
 have l1:loopO (impl_ValidPolygon_l11 [a,b,c,d] ((1:Nat):Int) b c) ((1+2:Nat):Int)=some (.inl ()):=
  edge_step (k:=3) (by simp) (by simp) (by simp) (by simp [rd]) (by simp [rd]) t2 (edge_end (by simp))
 have c0:=corner_ok (p:=[a,b,c,d]) (i:=0) (by simp) (by simp [rd]) (by simp [rd]) (by simp [rd]) ha hb hc h1 (by simp) l0
 have c1:=corner_ok (p:=[a,b,c,d]) (i:=1) (by simp) (by simp [rd]) (by simp [rd]) (by simp [rd]) hb hc hd h2 (by simp) l1
 have c2:=corner_ok (p:=[a,b,c,d]) (i:=2) (by simp) (by simp [rd]) (by simp [rd]) (by simp [rd]) hc hd ha h3 (by simp) (edge_end (by simp))
 have c3:=corner_ok (p:=[a,b,c,d]) (i:=3) (by simp) (by simp [rd]) (by simp [rd]) (by simp [rd]) hd ha hb h4 (by simp) (edge_end (by simp))
 have hl:loopO (impl_ValidPolygon_l5 [a,b,c,d]) 0=some (.inl ()):=by
  have c0':impl_ValidPolygon_l5 [a,b,c,d] 0=_:=c0
  rw [loopO_next c0',loopO_next c1,loopO_next c2,loopO_next c3]
  refine loopO_done ?_
  unfold impl_ValidPolygon_l5
  rw [if_neg (by simp)]
 have hdb:impl_doubled [a,b,c,d]=some (cr a b c+cr c d a):=by
  obtain ⟨_,e1,e2⟩:=cx_w ha hb
  obtain ⟨_,e3,e4⟩:=cx_w hb hc
  obtain ⟨_,e5,e6⟩:=cx_w hc hd
  have d0:=dbl_step (p:=[a,b,c,d]) (i:=0) (s:=0) (by simp) (by simp) (by simp [rd]) (by simp [rd]) ha hb (by omega) (by omega)
  have d1:=dbl_step (p:=[a,b,c,d]) (i:=1) (s:=0+cx a b) (by simp) (by simp) (by simp [rd]) (by simp [rd]) hb hc (by omega) (by omega)
  have d2:=dbl_step (p:=[a,b,c,d]) (i:=2) (s:=0+cx a b+cx b c) (by simp) (by simp) (by simp [rd]) (by simp [rd]) hc hd (by omega) (by omega)
  have d3:=dbl_step (p:=[a,b,c,d]) (i:=3) (s:=0+cx a b+cx b c+cx c d) (by simp) (by simp) (by simp [rd]) (by simp [rd]) hd ha (by omega) (by omega)
  have d0':impl_doubled_l3 [a,b,c,d] (0,0)=_:=d0
  have d4:impl_doubled_l3 [a,b,c,d] (0+cx a b+cx b c+cx c d+cx d a,((3+1:Nat):Int))=_:=dbl_end
  have e:cx c a=- cx a c:=by
   unfold cx
   have e1:=Int.mul_comm c.X a.Y
   have e2:=Int.mul_comm c.Y a.X
   omega
  unfold impl_doubled
  rw [loopO_next d0',loopO_next d1,loopO_next d2,loopO_next d3,loopO_done d4,Option.bind_some,←cx_cr a b c,←cx_cr c d a,e]
  congr 1
  omega
 unfold impl_ValidPolygon
 rw [if_neg (by simp),if_neg (by simp),hv]
 simp only [Option.bind_some,Bool.not_true,Bool.false_eq_true,if_false]
 rw [hl]
 simp only [Option.bind_some]
 rw [hdb,Option.bind_some,decide_eq_true (by omega)]
def Sr (c:List Int) (n:Int) (s:S_l00Src):Prop:=s.code=c∧0≤s.at_∧s.at_≤n
theorem Sr.mono {c:List Int} {n m:Int} {s:S_l00Src} (h:Sr c n s) (hm:n≤m):Sr c m s:=⟨h.1,h.2.1,by have:=h.2.2;omega⟩
theorem and255 (x:Int):0≤bit_and .u64 x 255∧bit_and .u64 x 255≤255:=by
 unfold bit_and
 have h1:(BitVec.ofInt IntKind.u64.bits x &&& BitVec.ofInt IntKind.u64.bits 255).toNat≤255:=by
  rw [BitVec.toNat_and]
  exact Nat.le_trans Nat.and_le_right (by decide)
 generalize (BitVec.ofInt IntKind.u64.bits x &&& BitVec.ofInt IntKind.u64.bits 255).toNat=k at h1
 have e:IntKind.wrap .u64 (k:Int)=(k:Int):=by
  simp only [IntKind.wrap,IntKind.signed,IntKind.bits]
  simp
  omega
 rw [e]
 omega
theorem next_ok {c:List Int} (hc:∀x∈c,0≤x∧x≤255) {n:Int} (hn:n≤1000000000) {s:S_l00Src} (h:Sr c n s):∃v s',spec_l00Src_next s=some (v,s')∧0≤v∧v≤255∧Sr c (n+1) s':=by
 obtain ⟨h1,h2,h3⟩:=h
 have e1:w64 (s.at_+1)=s.at_+1:=w64_id (by omega) (by omega)
 have k4:∀b,0≤b→b≤255→∃v s',spec_l00Src_next_k4 s b=some (v,s')∧0≤v∧v≤255∧Sr c (n+1) s':=by
  intro b b1 b2
  unfold spec_l00Src_next_k4 shr
  rw [e1]
  by_cases q:s.at_+1≤(s.code.length:Int)
  ·rw [if_pos q]
   exact ⟨_,_,rfl,b1,b2,h1,by show 0≤s.at_+1;omega,by show s.at_+1≤n+1;omega⟩
  ·rw [if_neg q,if_neg (by decide)]
   simp only [Option.bind_some]
   have a:=and255 (Int.fdiv (IntKind.wrap .u64 ((IntKind.wrap .u64 ((IntKind.wrap .u64 (s.seed*6364136223846793005))+(IntKind.wrap .u64 b)))+1442695040888963407)) (2 ^ min (Int.toNat 40) IntKind.u64.bits))
   refine ⟨_,_,rfl,?_,?_,h1,by show 0≤s.at_+1;omega,by show s.at_+1≤n+1;omega⟩
   ·rw [w64_id (by omega) (by omega)];exact a.1
   ·rw [w64_id (by omega) (by omega)];exact a.2
 unfold spec_l00Src_next
 by_cases q:s.at_< (s.code.length:Int)
 ·rw [if_pos q]
  obtain ⟨i,hi⟩:∃i:Nat,s.at_=(i:Int):=⟨s.at_.toNat,by omega⟩
  have hlt:i<s.code.length:=by omega
  rw [hi,rd_lt hlt,Option.bind_some]
  have hb:=hc s.code[i] (by rw [←h1];exact List.getElem_mem hlt)
  rw [w64_id (by omega) (by omega)]
  exact k4 _ hb.1 hb.2
 ·rw [if_neg q]
  exact k4 0 (by omega) (by omega)
theorem pick_ok {c:List Int} (hc:∀x∈c,0≤x∧x≤255) {n:Int} (hn:n≤999999999) {s:S_l00Src} (h:Sr c n s) (m:Int):∃v s',spec_l00Src_pick s m=some (v,s')∧0≤v∧(1≤m→v<m)∧Sr c (n+2) s':=by
 unfold spec_l00Src_pick
 by_cases q:m≤1
 ·rw [if_pos q]
  exact ⟨_,_,rfl,by omega,by omega,h.mono (by omega)⟩
 ·rw [if_neg q]
  obtain ⟨v,s1,e1,v1,v2,h1⟩:=next_ok hc (by omega) h
  have k6:∀(x:Int) (t:S_l00Src),0≤x→Sr c (n+2) t→∃v s',spec_l00Src_pick_k6 m x t.code t.at_ t.seed=some (v,s')∧0≤v∧(1≤m→v<m)∧Sr c (n+2) s':=by
   intro x t hx ht
   unfold spec_l00Src_pick_k6 md
   rw [if_neg (by omega),Option.bind_some]
   have e:x.tmod m=x % m:=Int.tmod_eq_emod_of_nonneg hx
   refine ⟨_,_,rfl,?_,fun _=>?_,ht⟩
   ·rw [e];exact Int.emod_nonneg _ (by omega)
   ·rw [e];exact Int.emod_lt_of_pos _ (by omega)
  simp only [e1,Option.bind_some]
  by_cases q2:m>200
  ·rw [if_pos q2]
   obtain ⟨w,s2,e2,w1,w2,h2⟩:=next_ok hc (n:=n+1) (by omega) h1
   simp only [e2,Option.bind_some]
   have a1:w64 (v*256)=v*256:=w64_id (by omega) (by omega)
   have a2:w64 (v*256+w)=v*256+w:=w64_id (by omega) (by omega)
   rw [a1,a2]
   exact k6 _ s2 (by omega) (h2.mono (by omega))
  ·rw [if_neg q2]
   exact k6 v s1 v1 (h1.mono (by omega))
theorem one_ok {c:List Int} (hc:∀x∈c,0≤x∧x≤255) {n:Int} (hn:n≤999999999) {s:S_l00Src} (h:Sr c n s) (m:Int):∃v s',spec_l00Src_one s m=some (v,s')∧Sr c (n+2) s':=by
 obtain ⟨v,s',e,_,_,h'⟩:=pick_ok hc hn h m
 unfold spec_l00Src_one
 rw [e]
 exact ⟨_,_,rfl,h'⟩
theorem among_ok {c:List Int} (hc:∀x∈c,0≤x∧x≤255) {n:Int} (hn:n≤999999999) {s:S_l00Src} (h:Sr c n s) (l:List Int) (hl:1≤l.length):∃v s',spec_l00Src_among s l=some (v,s')∧v∈l∧Sr c (n+2) s':=by
 obtain ⟨v,s',e,v1,v2,h'⟩:=pick_ok hc hn h (l.length:Int)
 have v3:=v2 (by omega)
 obtain ⟨i,hi⟩:∃i:Nat,v=(i:Int):=⟨v.toNat,by omega⟩
 subst hi
 have hlt:i<l.length:=by omega
 unfold spec_l00Src_among
 rw [e]
 simp only [Option.bind_some,rd_lt hlt]
 exact ⟨_,_,rfl,List.getElem_mem hlt,h'⟩
theorem from_ok (c:List Int):∃s,spec_l00From c=some s∧Sr c 0 s:=⟨_,rfl,rfl,by show (0:Int)≤0;omega,by show (0:Int)≤0;omega⟩
def dg (k:Nat):ByteArray:=⟨#[UInt8.ofNat (48+k)]⟩
def gnm (y x:Nat):ByteArray:=((⟨#[102]⟩:ByteArray)++dg y)++dg x
def Xs (l:List Int) (k:Nat):Prop:=l.length=k+1∧l.getD 0 0=0∧∀i,i<k→l.getD i 0+20≤l.getD (i+1) 0∧l.getD (i+1) 0≤l.getD i 0+219
def gP (nx:Nat) (xs ys:List Int) (i:Nat):S_Point:=⟨xs.getD (i % (nx+1)) 0,ys.getD (i / (nx+1)) 0⟩
def gk (nx y x:Nat):Int:=((y* (nx+1)+x:Nat):Int)
def gF1 (nx y x:Nat):S_Face:=⟨gnm y x,[gk nx y x,gk nx y x+1,gk nx y x+nx+2,gk nx y x+nx+1]⟩
def gF (nx:Nat) (i:Nat):S_Face:=gF1 nx (i / nx) (i % nx)
theorem Xs.bd {l:List Int} {k:Nat} (h:Xs l k):∀i,i≤k→0≤l.getD i 0∧l.getD i 0≤219*i:=by
 intro i
 induction i with
 | zero=>intro _;rw [h.2.1];omega
 | succ i ih=>
  intro hi
  have:=ih (by omega)
  have:=h.2.2 i (by omega)
  omega
theorem Xs.snoc {l:List Int} {k:Nat} (h:Xs l k) {v:Int} (h0:0≤v) (h1:v<200):Xs (l++[l.getD k 0+20+v]) (k+1):=by
 have hg:∀i,i≤k→(l++[l.getD k 0+20+v]).getD i 0=l.getD i 0:=by
  intro i hi
  simp only [List.getD_eq_getElem?_getD]
  rw [List.getElem?_append_left (by rw [h.1];omega)]
 refine ⟨by simp [h.1],by rw [hg 0 (by omega)];exact h.2.1,fun i hi=>?_⟩
 by_cases c:i<k
 ·rw [hg i (by omega),hg (i+1) (by omega)]
  exact h.2.2 i c
 ·have:i=k:=by omega
  subst this
  have e:(l++[l.getD i 0+20+v]).getD (i+1) 0=l.getD i 0+20+v:=by
   rw [List.getD_eq_getElem?_getD,List.getElem?_append_right (by rw [h.1];omega),h.1]
   simp
  rw [hg i (by omega),e]
  omega
theorem dec1 {k:Nat} (h:k<3):spec_l01Dec (k:Int)=some (dg k):=by
 have h3:k=0∨k=1∨k=2:=by omega
 rcases h3 with rfl | rfl | rfl
 ·rfl
 ·have e1:spec_l01Dec_l5 (1,[])=some (.inl (0,[49])):=rfl
  have e2:spec_l01Dec_l5 (0,[49])=some (.inr [49]):=rfl
  have e:loopO spec_l01Dec_l5 (1,[])=some [49]:=by rw [loopO_next e1,loopO_done e2]
  unfold spec_l01Dec
  rw [if_neg (by decide)]
  have e':loopO spec_l01Dec_l5 (((1:Nat):Int),[])=some [49]:=e
  rw [e',Option.bind_some,if_neg (by decide)]
  unfold spec_l01Dec_k13
  have f1:spec_l01Dec_l15 [49] (0,[])=some (.inl (-1,[49])):=rfl
  have f2:spec_l01Dec_l15 [49] (-1,[49])=some (.inr [49]):=rfl
  have f:loopO (spec_l01Dec_l15 [49]) (w64 ((([49]:List Int).length:Int) - 1),[])=some [49]:=by
   have g:(w64 ((([49]:List Int).length:Int) - 1),([]:List Int))=(0,[]):=rfl
   rw [g,loopO_next f1,loopO_done f2]
  rw [f,Option.bind_some]
  rfl
 ·have e1:spec_l01Dec_l5 (2,[])=some (.inl (0,[50])):=rfl
  have e2:spec_l01Dec_l5 (0,[50])=some (.inr [50]):=rfl
  have e:loopO spec_l01Dec_l5 (2,[])=some [50]:=by rw [loopO_next e1,loopO_done e2]
  unfold spec_l01Dec
  rw [if_neg (by decide)]
  have e':loopO spec_l01Dec_l5 (((2:Nat):Int),[])=some [50]:=e
  rw [e',Option.bind_some,if_neg (by decide)]
  unfold spec_l01Dec_k13
  have f1:spec_l01Dec_l15 [50] (0,[])=some (.inl (-1,[50])):=rfl
  have f2:spec_l01Dec_l15 [50] (-1,[50])=some (.inr [50]):=rfl
  have f:loopO (spec_l01Dec_l15 [50]) (w64 ((([50]:List Int).length:Int) - 1),[])=some [50]:=by
   have g:(w64 ((([50]:List Int).length:Int) - 1),([]:List Int))=(0,[]):=rfl
   rw [g,loopO_next f1,loopO_done f2]
  rw [f,Option.bind_some]
  rfl
theorem xs_ok {c:List Int} (hc:∀x∈c,0≤x∧x≤255) {x16:Int×S_l00Src} {nx:Nat} (hx:1+x16.1=(nx:Int)) (hx3:nx≤3) {n:Int} (hn:n≤900000000):
 ∀(m k:Nat) (t:S_l00Src) (l:List Int),k+m=nx→Xs l k→Sr c (n+2*k) t→∃r,loopO (spec_l05Grid_l6 x16) ((k:Int),t.code,t.at_,t.seed,l)=some r∧Xs r.2.2.2 nx∧Sr c (n+2*nx) ⟨r.1,r.2.1,r.2.2.1⟩:=by
 intro m
 induction m with
 | zero=>
  intro k t l hk hl ht
  refine ⟨(t.code,t.at_,t.seed,l),loopO_done ?_,by rw [←hk];exact hl,by rw [←hk];exact ht⟩
  unfold spec_l05Grid_l6
  simp only
  rw [w64_id (n:=1+x16.1) (by omega) (by omega),if_neg (by omega)]
 | succ m ih=>
  intro k t l hk hl ht
  obtain ⟨v,t',e,v0,v1,ht'⟩:=pick_ok hc (by omega) ht 200
  have hb:=hl.bd k (Nat.le_refl _)
  have hk3:k<3:=by omega
  have S1:spec_l05Grid_l6 x16 ((k:Int),t.code,t.at_,t.seed,l)=some (.inl (((k+1:Nat):Int),t'.code,t'.at_,t'.seed,l++[l.getD k 0+20+v])):=by
   unfold spec_l05Grid_l6
   simp only
   have e':spec_l00Src_pick ⟨t.code,t.at_,t.seed⟩ 200=some (v,t'):=e
   rw [w64_id (n:=1+x16.1) (by omega) (by omega),if_pos (by omega),rd_getD 0 (by rw [hl.1];omega),Option.bind_some,e',Option.bind_some,w64_id (n:=l.getD k 0+20) (by omega) (by omega),w64_id (n:=l.getD k 0+20+v) (by omega) (by omega),apdn (by rw [hl.1];simp;omega),Option.bind_some,w64_succ (by omega)]
  rw [loopO_next S1]
  exact ih (k+1) t' _ (by omega) (hl.snoc v0 (by omega)) (ht'.mono (by omega))
theorem l10_l6:spec_l05Grid_l10=spec_l05Grid_l6:=by
 funext x s
 rfl
theorem row_ok {x16:Int×S_l00Src} {nx:Nat} (hx:1+x16.1=(nx:Int)) (hx3:nx≤3) {xs ys:List Int} (h1:xs.length=nx+1) {y:Nat} (hy:y<ys.length) (hy4:y≤3):
 ∀(m k:Nat),k+m=nx+1→loopO (spec_l05Grid_l18 x16 xs (y:Int) ys) ((k:Int),(List.range (y* (nx+1)+k)).map (gP nx xs ys))=some ((List.range (y* (nx+1)+(nx+1))).map (gP nx xs ys)):=by
 intro m
 induction m with
 | zero=>
  intro k hk
  have:k=nx+1:=by omega
  subst this
  refine loopO_done ?_
  unfold spec_l05Grid_l18
  simp only
  rw [w64_id (n:=1+x16.1) (by omega) (by omega),if_neg (by omega)]
 | succ m ih=>
  intro k hk
  have hm:y* (nx+1)≤3* (nx+1):=Nat.mul_le_mul_right _ hy4
  have S1:spec_l05Grid_l18 x16 xs (y:Int) ys ((k:Int),(List.range (y* (nx+1)+k)).map (gP nx xs ys))=some (.inl (((k+1:Nat):Int),(List.range (y* (nx+1)+(k+1))).map (gP nx xs ys))):=by
   unfold spec_l05Grid_l18
   simp only
   rw [w64_id (n:=1+x16.1) (by omega) (by omega),if_pos (by omega),rd_getD 0 (by omega),Option.bind_some,rd_getD 0 hy,Option.bind_some,apdn (by simp;omega),Option.bind_some,w64_succ (by omega)]
   have e1:(y* (nx+1)+k) % (nx+1)=k:=by rw [Nat.mul_comm,Nat.mul_add_mod,Nat.mod_eq_of_lt (by omega)]
   have e2:(y* (nx+1)+k) / (nx+1)=y:=by rw [Nat.mul_comm,Nat.mul_add_div (by omega),Nat.div_eq_of_lt (by omega),Nat.add_zero]
   have e3:gP nx xs ys (y* (nx+1)+k)=⟨xs.getD k 0,ys.getD y 0⟩:=by unfold gP;rw [e1,e2]
   rw [show y* (nx+1)+(k+1)=y* (nx+1)+k+1 by omega,List.range_succ,List.map_append,List.map_singleton,e3]
  rw [loopO_next S1]
  exact ih (k+1) (by omega)
theorem pts_ok2 {x16 x19:Int×S_l00Src} {nx ny:Nat} (hx:1+x16.1=(nx:Int)) (hx3:nx≤3) (hy:1+x19.1=(ny:Int)) (hy3:ny≤3) {xs ys:List Int} (h1:xs.length=nx+1) (h2:ys.length=ny+1):
 ∀(m k:Nat),k+m=ny+1→loopO (spec_l05Grid_l15 x16 x19 xs ys) ((k:Int),(List.range (k* (nx+1))).map (gP nx xs ys))=some ((List.range ((ny+1) * (nx+1))).map (gP nx xs ys)):=by
 intro m
 induction m with
 | zero=>
  intro k hk
  have:k=ny+1:=by omega
  subst this
  refine loopO_done ?_
  unfold spec_l05Grid_l15
  simp only
  rw [w64_id (n:=1+x19.1) (by omega) (by omega),if_neg (by omega)]
 | succ m ih=>
  intro k hk
  have r:=row_ok hx hx3 h1 (ys:=ys) (y:=k) (by omega) (by omega) (nx+1) 0 (by omega)
  rw [Nat.add_zero] at r
  have r:loopO (spec_l05Grid_l18 x16 xs (k:Int) ys) (0,(List.range (k* (nx+1))).map (gP nx xs ys))=_:=r
  have S1:spec_l05Grid_l15 x16 x19 xs ys ((k:Int),(List.range (k* (nx+1))).map (gP nx xs ys))=some (.inl (((k+1:Nat):Int),(List.range ((k+1) * (nx+1))).map (gP nx xs ys))):=by
   unfold spec_l05Grid_l15
   simp only
   rw [w64_id (n:=1+x19.1) (by omega) (by omega),if_pos (by omega),r,Option.bind_some,w64_succ (by omega),Nat.succ_mul]
  rw [loopO_next S1]
  exact ih (k+1) (by omega)
theorem frow_ok {x16:Int×S_l00Src} {nx:Nat} (hx:1+x16.1=(nx:Int)) (hx1:1≤nx) (hx3:nx≤3) {y:Nat} (hy:y<3):
 ∀(m k:Nat),k+m=nx→loopO (spec_l05Grid_l25 x16 (y:Int)) ((k:Int),(List.range (y*nx+k)).map (gF nx))=some ((List.range (y*nx+nx)).map (gF nx)):=by
 intro m
 induction m with
 | zero=>
  intro k hk
  have:k=nx:=by omega
  subst this
  refine loopO_done ?_
  unfold spec_l05Grid_l25
  simp only
  rw [w64_id (n:=1+x16.1) (by omega) (by omega),if_neg (by omega)]
 | succ m ih=>
  intro k hk
  have hm:y*nx≤2*nx:=Nat.mul_le_mul_right _ (by omega)
  have hm2:y* (nx+1)≤2* (nx+1):=Nat.mul_le_mul_right _ (by omega)
  have g1:(y:Int) * (nx+1)=((y* (nx+1):Nat):Int):=by push_cast;rfl
  have S1:spec_l05Grid_l25 x16 (y:Int) ((k:Int),(List.range (y*nx+k)).map (gF nx))=some (.inl (((k+1:Nat):Int),(List.range (y*nx+(k+1))).map (gF nx))):=by
   unfold spec_l05Grid_l25
   simp only
   have e0:w64 (1+x16.1)=(nx:Int):=by rw [w64_id (by omega) (by omega)];exact hx
   have e1:w64 ((nx:Int)+1)=(nx:Int)+1:=w64_id (by omega) (by omega)
   rw [e0,if_pos (by omega),e1,g1,w64_id (n:=((y* (nx+1):Nat):Int)) (by omega) (by omega),w64_id (n:=((y* (nx+1):Nat):Int)+(k:Int)) (by omega) (by omega),w64_id (n:=((y* (nx+1):Nat):Int)+(k:Int)+1) (by omega) (by omega),w64_id (n:=((y* (nx+1):Nat):Int)+(k:Int)+(nx:Int)) (by omega) (by omega),w64_id (n:=((y* (nx+1):Nat):Int)+(k:Int)+(nx:Int)+2) (by omega) (by omega),w64_id (n:=((y* (nx+1):Nat):Int)+(k:Int)+(nx:Int)+1) (by omega) (by omega),
    dec1 hy,Option.bind_some,cat_some (by show 1+1≤_;omega),Option.bind_some,dec1 (by omega),Option.bind_some,cat_some (by rw [ByteArray.size_append];show (1+1)+1≤_;omega),Option.bind_some,apdn (by simp;omega),Option.bind_some,w64_succ (by omega)]
   have d1:(y*nx+k) % nx=k:=by rw [Nat.mul_comm,Nat.mul_add_mod,Nat.mod_eq_of_lt (by omega)]
   have d2:(y*nx+k) / nx=y:=by rw [Nat.mul_comm,Nat.mul_add_div (by omega),Nat.div_eq_of_lt (by omega),Nat.add_zero]
   have e3:gF nx (y*nx+k)=gF1 nx y k:=by unfold gF;rw [d1,d2]
   have e4:((y* (nx+1):Nat):Int)+(k:Int)=gk nx y k:=by unfold gk;omega
   rw [show y*nx+(k+1)=y*nx+k+1 by omega,List.range_succ,List.map_append,List.map_singleton,e3,e4]
   rfl
  rw [loopO_next S1]
  exact ih (k+1) (by omega)
theorem faces_ok {x16 x19:Int×S_l00Src} {nx ny:Nat} (hx:1+x16.1=(nx:Int)) (hx1:1≤nx) (hx3:nx≤3) (hy:1+x19.1=(ny:Int)) (hy3:ny≤3):
 ∀(m k:Nat),k+m=ny→loopO (spec_l05Grid_l22 x16 x19) ((k:Int),(List.range (k*nx)).map (gF nx))=some ((List.range (ny*nx)).map (gF nx)):=by
 intro m
 induction m with
 | zero=>
  intro k hk
  have:k=ny:=by omega
  subst this
  refine loopO_done ?_
  unfold spec_l05Grid_l22
  simp only
  rw [w64_id (n:=1+x19.1) (by omega) (by omega),if_neg (by omega)]
 | succ m ih=>
  intro k hk
  have r:=frow_ok hx hx1 hx3 (y:=k) (by omega) nx 0 (by omega)
  rw [Nat.add_zero] at r
  have r:loopO (spec_l05Grid_l25 x16 (k:Int)) (0,(List.range (k*nx)).map (gF nx))=_:=r
  have S1:spec_l05Grid_l22 x16 x19 ((k:Int),(List.range (k*nx)).map (gF nx))=some (.inl (((k+1:Nat):Int),(List.range ((k+1) *nx)).map (gF nx))):=by
   unfold spec_l05Grid_l22
   simp only
   rw [w64_id (n:=1+x19.1) (by omega) (by omega),if_pos (by omega),r,Option.bind_some,w64_succ (by omega),Nat.succ_mul]
  rw [loopO_next S1]
  exact ih (k+1) (by omega)
theorem grid_ok {c:List Int} (hc:∀x∈c,0≤x∧x≤255) {n:Int} (hn:n≤800000000) {s:S_l00Src} (h:Sr c n s):
 ∃(nx ny:Nat) (xs ys:List Int) (s':S_l00Src),1≤nx∧nx≤3∧1≤ny∧ny≤3∧Xs xs nx∧Xs ys ny∧Sr c (n+20) s'∧
  spec_l05Grid s=some (⟨xs.getD nx 0,ys.getD ny 0,(List.range ((ny+1) * (nx+1))).map (gP nx xs ys),(List.range (ny*nx)).map (gF nx)⟩,s'):=by
 obtain ⟨v1,s1,e1,a0,a1,h1⟩:=pick_ok hc (by omega) h 3
 obtain ⟨v2,s2,e2,b0,b1,h2⟩:=pick_ok hc (by omega) h1 3
 obtain ⟨nx,hx⟩:∃nx:Nat,1+v1=(nx:Int):=⟨(1+v1).toNat,by omega⟩
 obtain ⟨ny,hy⟩:∃ny:Nat,1+v2=(ny:Int):=⟨(1+v2).toNat,by omega⟩
 obtain ⟨⟨p1,p2,p3,xs⟩,q1,q2,q3⟩:=xs_ok hc (x16:=(v1,s1)) hx (by omega) (n:=n+4) (by omega) nx 0 s2 [0] (by omega) ⟨rfl,rfl,fun i hi=>by omega⟩ (h2.mono (by omega))
 obtain ⟨⟨r1,r2,r3,ys⟩,t1,t2,t3⟩:=xs_ok hc (x16:=(v2,s2)) hy (by omega) (n:=n+10) (by omega) ny 0 ⟨p1,p2,p3⟩ [0] (by omega) ⟨rfl,rfl,fun i hi=>by omega⟩ (q3.mono (by omega))
 have q1:loopO (spec_l05Grid_l6 (v1,s1)) (0,s2.code,s2.at_,s2.seed,[0])=_:=q1
 have t1:loopO (spec_l05Grid_l6 (v2,s2)) (0,p1,p2,p3,[0])=_:=t1
 have u1:=pts_ok2 (x16:=(v1,s1)) (x19:=(v2,s2)) hx (by omega) hy (by omega) q2.1 t2.1 (ny+1) 0 (by omega)
 have u2:=faces_ok (x16:=(v1,s1)) (x19:=(v2,s2)) hx (by omega) (by omega) hy (by omega) ny 0 (by omega)
 rw [Nat.zero_mul] at u1 u2
 have u1:loopO (spec_l05Grid_l15 (v1,s1) (v2,s2) xs ys) (0,[])=_:=u1
 have u2:loopO (spec_l05Grid_l22 (v1,s1) (v2,s2)) (0,[])=_:=u2
 refine ⟨nx,ny,xs,ys,⟨r1,r2,r3⟩,by omega,by omega,by omega,by omega,q2,t2,t3.mono (by omega),?_⟩
 unfold spec_l05Grid
 rw [e1,Option.bind_some,e2,Option.bind_some,q1,Option.bind_some]
 simp only
 rw [l10_l6,t1,Option.bind_some]
 simp only
 rw [w64_id (n:=1+v1) (by omega) (by omega),w64_id (n:=1+v2) (by omega) (by omega),hx,hy,rd_getD 0 (by rw [q2.1];omega),Option.bind_some,rd_getD 0 (by rw [t2.1];omega),Option.bind_some,u1,Option.bind_some,u2,Option.bind_some]
def nmB (a:ByteArray):ByteArray:=a++(⟨#[98]⟩:ByteArray)
def N2 (L:List ByteArray):List ByteArray:=L.flatMap fun a=>[a,nmB a]
def Lt (a b:ByteArray):Prop:=Op.bytesLess a.toList b.toList=true
def FOK (pts:List S_Point) (f:S_Face):Prop:=impl_IsName f.Name=some true∧f.Name.size≤10∧f.Ring.length≤4∧∃poly,impl_ringPolygon pts f.Ring=some (poly,true)∧impl_ValidPolygon poly=some true
def Base (pts:List S_Point) (f:S_Face):Prop:=∃a b c d,f.Ring=[a,b,c,d]∧FOK pts f∧FOK pts ⟨f.Name,[a,b,c]⟩∧FOK pts ⟨nmB f.Name,[a,c,d]⟩
structure DOK (d:S_Drawing):Prop where
 w:10≤d.Width∧d.Width≤20000
 h:10≤d.Height∧d.Height≤20000
 pl:d.Points.length≤48
 pl0:2≤d.Points.length
 pin:∀p∈d.Points,0≤p.X∧p.X≤d.Width∧0≤p.Y∧p.Y≤d.Height
 pdf:∀(i j:Nat) (hi:i<d.Points.length) (hj:j<i),¬(d.Points[i].X=(d.Points[j]'(by omega)).X∧d.Points[i].Y=(d.Points[j]'(by omega)).Y)
 fl:d.Faces.length≤24
 fl0:1≤d.Faces.length
 fn:(d.Faces.map (·.Name)).Pairwise Lt
 fok:∀f∈d.Faces,FOK d.Points f
theorem contains_no {l:List S_Point} {p:S_Point} (hl:l.length≤1048576) (h:∀x∈l,¬(p.X=x.X∧p.Y=x.Y)):slices_Contains_impl_Point_impl_Point l p=some false:=by
 unfold slices_Contains_impl_Point_impl_Point slices_Index_impl_Point_impl_Point
 rcases scanFind (f:=slices_Index_impl_Point_impl_Point_l2 l p) l (fun x=>decide (p.X=x.X∧p.Y=x.Y)) (fun k=>(k:Int)) (by omega) (fun k hk=>by
  unfold slices_Index_impl_Point_impl_Point_l2
  rw [if_pos (by omega),rd_lt hk,Option.bind_some]
  by_cases c:p.X=l[k].X∧p.Y=l[k].Y
  ·rw [if_pos c,if_pos (decide_eq_true c)]
  ·rw [if_neg c,if_neg (by simpa using c)]) (by unfold slices_Index_impl_Point_impl_Point_l2;rw [if_neg (by omega)]) with ⟨_,b2⟩ | ⟨m,hm,b1,_,_⟩
 ·rw [b2];rfl
 ·exact absurd (of_decide_eq_true b1) (h _ (List.getElem_mem hm))
theorem dok_valid {d:S_Drawing} (h:DOK d):impl_ValidDrawing d=some true:=by
 have hp:=h.pl
 have hf:=h.fl
 have L4:loopO (impl_ValidDrawing_l4 d) 0=some (.inl ()):=by
  refine loopO_for (f:=impl_ValidDrawing_l4 d) (fun i:Nat=>(i:Int)) d.Points.length (fun i hi=>?_) ?_
  ·have hs:slc d.Points 0 (i:Int)=some (d.Points.take i):=by
    unfold slc
    rw [if_pos ⟨by omega,by omega,by omega⟩]
    simp
   obtain ⟨q1,q2,q3,q4⟩:=h.pin _ (List.getElem_mem hi)
   have hc:slices_Contains_impl_Point_impl_Point (d.Points.take i) d.Points[i]=some false:=by
    refine contains_no (by rw [List.length_take];omega) fun x hx=>?_
    obtain ⟨j,hj,rfl⟩:=List.mem_iff_getElem.1 hx
    rw [List.length_take] at hj
    rw [List.getElem_take]
    exact h.pdf i j hi (by omega)
   unfold impl_ValidDrawing_l4
   rw [if_pos (by omega),rd_lt hi,Option.bind_some,within_eq,within_eq,decide_eq_true ⟨q1,q2⟩,decide_eq_true ⟨q3,q4⟩,hs]
   simp only [Option.bind_some,if_true,hc,Bool.false_eq_true,if_false]
   rw [w64_succ (by omega)]
  ·unfold impl_ValidDrawing_l4
   rw [if_neg (by omega)]
 have L10:loopO (impl_ValidDrawing_l10 d) 0=some (.inl ()):=by
  refine loopO_for (f:=impl_ValidDrawing_l10 d) (fun i:Nat=>(i:Int)) d.Faces.length (fun i hi=>?_) ?_
  ·obtain ⟨n1,n2,n3,poly,n4,n5⟩:=h.fok _ (List.getElem_mem hi)
   unfold impl_ValidDrawing_l10
   rw [if_pos (by omega),rd_lt hi,Option.bind_some,n1]
   simp only [Option.bind_some,if_true]
   have tail:((impl_ringPolygon d.Points d.Faces[i].Ring).bind fun x95=>(if x95.2=true then ((impl_ValidPolygon x95.1).bind fun x102=>some (!x102)) else (some true)).bind fun t_104_m15=>if t_104_m15=true then (some (.inr (.inr false))) else (some (.inl (w64 ((i:Int)+1)))))=(some (.inl ((i+1:Nat):Int)):Option (Int ⊕ (Unit ⊕ Bool))):=by
    rw [n4]
    simp only [Option.bind_some,if_true,n5,Bool.not_true,Bool.false_eq_true,if_false]
    rw [w64_succ (by omega)]
   by_cases c:(i:Int) >0
   ·have hlt:Op.bytesLess (d.Faces[i - 1]'(by omega)).Name.toList d.Faces[i].Name.toList=true:=by
     have:=List.pairwise_iff_getElem.1 h.fn (i - 1) i (by rw [List.length_map];omega) (by rw [List.length_map];omega) (by omega)
     simpa [Lt] using this
    rw [if_pos c,w64_pred (by omega) (by omega),rd_lt (show i - 1<d.Faces.length by omega)]
    simp only [Option.bind_some,hlt,Bool.not_true,Bool.false_eq_true,if_false]
    exact tail
   ·rw [if_neg c]
    simp only [Option.bind_some,Bool.false_eq_true,if_false]
    exact tail
  ·unfold impl_ValidDrawing_l10
   rw [if_neg (by omega)]
 unfold impl_ValidDrawing
 rw [within_eq,within_eq,decide_eq_true h.w,decide_eq_true h.h]
 simp only [Option.bind_some,if_true]
 rw [if_neg (by omega),decide_eq_false (by omega)]
 simp only [Option.bind_some,Bool.false_eq_true,if_false]
 rw [L4]
 simp only [Option.bind_some]
 rw [L10]
 rfl
theorem rd_inv {α:Type} {l:List α} {i:Int} {y:α} (h:rd l i=some y):0≤i∧l[i.toNat]?=some y:=by
 unfold rd at h
 split at h
 ·exact ⟨by assumption,h⟩
 ·cases h
theorem ring_val {pts q:List S_Point} {ring:List Int} (hl:ring.length=q.length) (hr:ring.length≤100) (hp:pts.length≤1000) (h:∀(j:Nat) (hj:j<ring.length),rd pts ring[j]=some (q[j]'(by omega))):impl_ringPolygon pts ring=some (q,true):=by
 have e:loopO (impl_ringPolygon_l3 pts ring) (0,[])=some (.inl q):=by
  have:=loopO_for (f:=impl_ringPolygon_l3 pts ring) (fun i:Nat=>((i:Int),q.take i)) ring.length (r:= .inl q) (fun i hi=>by
   have hx:=h i hi
   obtain ⟨x0,x1⟩:=rd_inv hx
   have x2:ring[i].toNat<pts.length:=by
    rcases Nat.lt_or_ge ring[i].toNat pts.length with h' | h'
    ·exact h'
    ·rw [List.getElem?_eq_none h'] at x1;cases x1
   unfold impl_ringPolygon_l3
   simp only
   rw [if_pos (by omega),rd_lt hi,Option.bind_some,within_eq,w64_id (n:=(pts.length:Int) - 1) (by omega) (by omega),decide_eq_true ⟨x0,by omega⟩,Option.bind_some,if_pos rfl,hx,Option.bind_some,apdn (by rw [List.length_take];simp;omega),Option.bind_some,w64_succ (by omega)]
   rw [List.take_succ_eq_append_getElem (by omega)]) (by
   unfold impl_ringPolygon_l3
   simp only
   rw [if_neg (by omega),hl,List.take_length])
  simpa using this
 unfold impl_ringPolygon
 rw [e]
 rfl
theorem rect {x0 x1 y0 y1:Int} (hx:x0<x1) (hy:y0<y1):0<cr ⟨x0,y0⟩ ⟨x1,y0⟩ ⟨x1,y1⟩∧0<cr ⟨x1,y0⟩ ⟨x1,y1⟩ ⟨x0,y1⟩∧0<cr ⟨x1,y1⟩ ⟨x0,y1⟩ ⟨x0,y0⟩∧0<cr ⟨x0,y1⟩ ⟨x0,y0⟩ ⟨x1,y0⟩:=by
 have m:0< (x1 - x0) * (y1 - y0):=Int.mul_pos (by omega) (by omega)
 have a1:=Int.mul_comm y0 x0
 have a2:=Int.mul_comm y0 x1
 have a3:=Int.mul_comm y1 x0
 have a4:=Int.mul_comm y1 x1
 unfold cr
 simp only [Int.sub_mul,Int.mul_sub] at m ⊢
 refine ⟨?_,?_,?_,?_⟩<;>omega
theorem isname {s:ByteArray} (h1:1≤s.size) (h2:s.size≤10) (h0:∃v,bt s 0=some v∧97≤v∧v≤122) (h3:∀i:Nat,i<s.size→∃v,bt s (i:Int)=some v∧((97≤v∧v≤122)∨(48≤v∧v≤57))):impl_IsName s=some true:=by
 obtain ⟨v,v1,v2,v3⟩:=h0
 have e:loopO (impl_IsName_l4 s) 0=some (.inl ()):=by
  refine loopO_for (f:=impl_IsName_l4 s) (fun i:Nat=>(i:Int)) s.size (fun i hi=>?_) ?_
  ·obtain ⟨v,v1,v2⟩:=h3 i hi
   unfold impl_IsName_l4
   rw [if_pos (by omega),v1]
   simp only [Option.bind_some]
   rcases v2 with v2 | v2
   ·rw [if_neg (by omega),if_neg (by omega)]
    simp only [Option.bind_some,Bool.false_eq_true,if_false]
    rw [w64_succ (by omega)]
   ·rw [if_pos (by omega),if_neg (by omega)]
    simp only [Option.bind_some]
    rw [decide_eq_false (by omega)]
    simp only [Bool.false_eq_true,if_false]
    rw [w64_succ (by omega)]
  ·unfold impl_IsName_l4
   rw [if_neg (by omega)]
 unfold impl_IsName
 rw [if_neg (by omega),if_neg (by omega),v1]
 simp only [Option.bind_some]
 rw [if_neg (by omega),decide_eq_false (by omega)]
 simp only [Option.bind_some,Bool.false_eq_true,if_false]
 rw [e]
 rfl
theorem gnm_name {y x:Nat} (hy:y<3) (hx:x<3):impl_IsName (gnm y x)=some true∧(gnm y x).size=3∧impl_IsName (nmB (gnm y x))=some true∧(nmB (gnm y x)).size=4:=by
 have hy3:y=0∨y=1∨y=2:=by omega
 have hx3:x=0∨x=1∨x=2:=by omega
 have key:∀s:ByteArray,s.size≤4→1≤s.size→(∃v,bt s 0=some v∧97≤v∧v≤122)→(1<s.size→∃v,bt s 1=some v∧((97≤v∧v≤122)∨(48≤v∧v≤57)))→(2<s.size→∃v,bt s 2=some v∧((97≤v∧v≤122)∨(48≤v∧v≤57)))→(3<s.size→∃v,bt s 3=some v∧((97≤v∧v≤122)∨(48≤v∧v≤57)))→impl_IsName s=some true:=by
  intro s h1 h2 h3 h4 h5 h6
  refine isname h2 (by omega) h3 fun i hi=>?_
  have:i=0∨i=1∨i=2∨i=3:=by omega
  rcases this with rfl | rfl | rfl | rfl
  ·obtain ⟨v,q1,q2,q3⟩:=h3
   exact ⟨v,q1,.inl ⟨q2,q3⟩⟩
  ·exact h4 hi
  ·exact h5 hi
  ·exact h6 hi
 rcases hy3 with rfl | rfl | rfl<;>rcases hx3 with rfl | rfl | rfl<;>
  exact ⟨key _ (by decide) (by decide) ⟨_,rfl,by decide,by decide⟩ (fun _=>⟨_,rfl,by decide⟩) (fun _=>⟨_,rfl,by decide⟩) (fun h=>absurd h (by decide)),rfl,
   key _ (by decide) (by decide) ⟨_,rfl,by decide,by decide⟩ (fun _=>⟨_,rfl,by decide⟩) (fun _=>⟨_,rfl,by decide⟩) (fun _=>⟨_,rfl,by decide⟩),rfl⟩
theorem names_ok {nx ny:Nat} (h1:1≤nx) (h3:nx≤3) (k1:1≤ny) (k3:ny≤3):(N2 ((List.range (ny*nx)).map fun i=>gnm (i / nx) (i % nx))).Pairwise Lt:=by
 have hx:nx=1∨nx=2∨nx=3:=by omega
 have hy:ny=1∨ny=2∨ny=3:=by omega
 unfold Lt
 rcases hx with rfl | rfl | rfl<;>rcases hy with rfl | rfl | rfl<;>decide+kernel
theorem gP_lt {nx ny i:Nat} {xs ys:List Int} (hi:i< (ny+1) * (nx+1)):rd ((List.range ((ny+1) * (nx+1))).map (gP nx xs ys)) (i:Int)=some (gP nx xs ys i):=by
 rw [rd_lt (by simpa using hi),List.getElem_map,List.getElem_range]
theorem gP_at {nx y x:Nat} {xs ys:List Int} (hx:x≤nx):gP nx xs ys (y* (nx+1)+x)=⟨xs.getD x 0,ys.getD y 0⟩:=by
 have e1:(y* (nx+1)+x) % (nx+1)=x:=by rw [Nat.mul_comm,Nat.mul_add_mod,Nat.mod_eq_of_lt (by omega)]
 have e2:(y* (nx+1)+x) / (nx+1)=y:=by rw [Nat.mul_comm,Nat.mul_add_div (by omega),Nat.div_eq_of_lt (by omega),Nat.add_zero]
 unfold gP
 rw [e1,e2]
theorem gpts_len {nx ny:Nat} (hx:nx≤3) (hy:ny≤3):(ny+1) * (nx+1)≤16:=by
 have:=Nat.mul_le_mul (show ny+1≤4 by omega) (show nx+1≤4 by omega)
 omega
theorem base_ok {nx ny:Nat} {xs ys:List Int} (hx3:nx≤3) (hy3:ny≤3) (hX:Xs xs nx) (hY:Xs ys ny) {y x:Nat} (hy:y<ny) (hx:x<nx):
 Base ((List.range ((ny+1) * (nx+1))).map (gP nx xs ys)) (gF1 nx y x):=by
 obtain ⟨n1,n2,n3,n4⟩:=gnm_name (y:=y) (x:=x) (by omega) (by omega)
 have hpl:=gpts_len hx3 hy3
 have b0:=hX.bd x (by omega)
 have b1:=hX.bd (x+1) (by omega)
 have b2:=hY.bd y (by omega)
 have b3:=hY.bd (y+1) (by omega)
 have g1:=(hX.2.2 x hx).1
 have g2:=(hY.2.2 y hy).1
 have hm:(y+1) * (nx+1)≤ny* (nx+1):=Nat.mul_le_mul_right _ (by omega)
 have hm1:(ny+1) * (nx+1)=ny* (nx+1)+(nx+1):=Nat.succ_mul _ _
 have hm2:(y+1) * (nx+1)=y* (nx+1)+(nx+1):=Nat.succ_mul _ _
 have r0:rd ((List.range ((ny+1) * (nx+1))).map (gP nx xs ys)) (gk nx y x)=some ⟨xs.getD x 0,ys.getD y 0⟩:=by
  unfold gk
  rw [gP_lt (by omega),gP_at (by omega)]
 have r1:rd ((List.range ((ny+1) * (nx+1))).map (gP nx xs ys)) (gk nx y x+1)=some ⟨xs.getD (x+1) 0,ys.getD y 0⟩:=by
  have e:gk nx y x+1=((y* (nx+1)+(x+1):Nat):Int):=by unfold gk;omega
  rw [e,gP_lt (by omega),gP_at (by omega)]
 have r2:rd ((List.range ((ny+1) * (nx+1))).map (gP nx xs ys)) (gk nx y x+nx+2)=some ⟨xs.getD (x+1) 0,ys.getD (y+1) 0⟩:=by
  have e:gk nx y x+nx+2=(((y+1) * (nx+1)+(x+1):Nat):Int):=by unfold gk;rw [hm2];omega
  rw [e,gP_lt (by omega),gP_at (by omega)]
 have r3:rd ((List.range ((ny+1) * (nx+1))).map (gP nx xs ys)) (gk nx y x+nx+1)=some ⟨xs.getD x 0,ys.getD (y+1) 0⟩:=by
  have e:gk nx y x+nx+1=(((y+1) * (nx+1)+x:Nat):Int):=by unfold gk;rw [hm2];omega
  rw [e,gP_lt (by omega),gP_at (by omega)]
 obtain ⟨c1,c2,c3,c4⟩:=rect (x0:=xs.getD x 0) (x1:=xs.getD (x+1) 0) (y0:=ys.getD y 0) (y1:=ys.getD (y+1) 0) (by omega) (by omega)
 have p0:Pt ⟨xs.getD x 0,ys.getD y 0⟩:=⟨by show 0≤xs.getD x 0;omega,by show xs.getD x 0≤20000;omega,by show 0≤ys.getD y 0;omega,by show ys.getD y 0≤20000;omega⟩
 have p1:Pt ⟨xs.getD (x+1) 0,ys.getD y 0⟩:=⟨by show 0≤xs.getD (x+1) 0;omega,by show xs.getD (x+1) 0≤20000;omega,by show 0≤ys.getD y 0;omega,by show ys.getD y 0≤20000;omega⟩
 have p2:Pt ⟨xs.getD (x+1) 0,ys.getD (y+1) 0⟩:=⟨by show 0≤xs.getD (x+1) 0;omega,by show xs.getD (x+1) 0≤20000;omega,by show 0≤ys.getD (y+1) 0;omega,by show ys.getD (y+1) 0≤20000;omega⟩
 have p3:Pt ⟨xs.getD x 0,ys.getD (y+1) 0⟩:=⟨by show 0≤xs.getD x 0;omega,by show xs.getD x 0≤20000;omega,by show 0≤ys.getD (y+1) 0;omega,by show ys.getD (y+1) 0≤20000;omega⟩
 have hlen:((List.range ((ny+1) * (nx+1))).map (gP nx xs ys)).length≤1000:=by rw [List.length_map,List.length_range];omega
 refine ⟨_,_,_,_,rfl,⟨n1,by show (gnm y x).size≤10;omega,by show 4≤4;omega,_,ring_val (q:=[_,_,_,_]) rfl (by show 4≤100;omega) hlen ?_,poly4 p0 p1 p2 p3 c1 c2 c3 c4⟩,
  ⟨n1,by show (gnm y x).size≤10;omega,by show 3≤4;omega,_,ring_val (q:=[_,_,_]) rfl (by show 3≤100;omega) hlen ?_,poly3 p0 p1 p2 c1⟩,⟨n3,by show (nmB (gnm y x)).size≤10;omega,by show 3≤4;omega,_,ring_val (q:=[_,_,_]) rfl (by show 3≤100;omega) hlen ?_,poly3 p0 p2 p3 (by rw [←cr_cyc];exact c3)⟩⟩
 ·intro j hj
  have hj4:j<4:=hj
  have:j=0∨j=1∨j=2∨j=3:=by omega
  rcases this with rfl | rfl | rfl | rfl
  ·exact r0
  ·exact r1
  ·exact r2
  ·exact r3
 ·intro j hj
  have hj4:j<3:=hj
  have:j=0∨j=1∨j=2:=by omega
  rcases this with rfl | rfl | rfl
  ·exact r0
  ·exact r1
  ·exact r2
 ·intro j hj
  have hj4:j<3:=hj
  have:j=0∨j=1∨j=2:=by omega
  rcases this with rfl | rfl | rfl
  ·exact r0
  ·exact r2
  ·exact r3
theorem Xs.mono {l:List Int} {k:Nat} (h:Xs l k):∀{i j:Nat},i<j→j≤k→l.getD i 0<l.getD j 0:=by
 intro i j
 induction j with
 | zero=>intro h;omega
 | succ j ih=>
  intro hij hj
  have g:=(h.2.2 j (by omega)).1
  by_cases e:i=j
  ·subst e;omega
  ·have:=ih (by omega) (by omega)
   omega
theorem Xs.inj {l:List Int} {k:Nat} (h:Xs l k) {i j:Nat} (hi:i≤k) (hj:j≤k) (e:l.getD i 0=l.getD j 0):i=j:=by
 rcases Nat.lt_trichotomy i j with h1 | h1 | h1
 ·have:=h.mono h1 hj;omega
 ·exact h1
 ·have:=h.mono h1 hi;omega
def Cut (pts:List S_Point) (L:List ByteArray) (n:Nat) (out:List S_Face):Prop:=out.length≤2*n∧n≤out.length∧List.Sublist (out.map (·.Name)) (N2 L)∧∀f∈out,FOK pts f
theorem grid_dok {nx ny:Nat} {xs ys:List Int} (hx1:1≤nx) (hx3:nx≤3) (hy1:1≤ny) (hy3:ny≤3) (hX:Xs xs nx) (hY:Xs ys ny) {out:List S_Face}
 (ho:Cut ((List.range ((ny+1) * (nx+1))).map (gP nx xs ys)) ((List.range (ny*nx)).map fun i=>gnm (i / nx) (i % nx)) (ny*nx) out):
 DOK ⟨xs.getD nx 0,ys.getD ny 0,(List.range ((ny+1) * (nx+1))).map (gP nx xs ys),out⟩:=by
 obtain ⟨o1,o2,o3,o4⟩:=ho
 have hpl:=gpts_len hx3 hy3
 have hfl:ny*nx≤9:=by have:=Nat.mul_le_mul hy3 hx3;omega
 have hfl1:1≤ny*nx:=Nat.mul_le_mul hy1 hx1
 have hpl2:4≤(ny+1) * (nx+1):=Nat.mul_le_mul (show 2≤ny+1 by omega) (show 2≤nx+1 by omega)
 have b0:=hX.bd nx (Nat.le_refl _)
 have b1:=hY.bd ny (Nat.le_refl _)
 have c0:=hX.mono (i:=0) (j:=1) (by omega) (by omega)
 have w0:xs.getD 0 0+20≤xs.getD 1 0:=(hX.2.2 0 (by omega)).1
 have w1:ys.getD 0 0+20≤ys.getD 1 0:=(hY.2.2 0 (by omega)).1
 have z0:=hX.2.1
 have z1:=hY.2.1
 have le1:∀{l:List Int} {k:Nat},Xs l k→∀{i:Nat},i≤k→l.getD i 0≤l.getD k 0:=by
  intro l k h i hi
  by_cases e:i=k
  ·subst e;omega
  ·have:=h.mono (show i<k by omega) (Nat.le_refl _)
   omega
 have l1:=le1 hX hx1
 have l2:=le1 hY hy1
 refine {w:=⟨by show 10≤xs.getD nx 0;omega,by show xs.getD nx 0≤20000;omega⟩,h:=⟨by show 10≤ys.getD ny 0;omega,by show ys.getD ny 0≤20000;omega⟩,pl:=?_,pl0:=?_,pin:=?_,pdf:=?_,fl:=by show out.length≤24;omega,fl0:=by show 1≤out.length;omega,fn:=(names_ok hx1 hx3 hy1 hy3).sublist o3,fok:=o4}
 ·show ((List.range ((ny+1) * (nx+1))).map (gP nx xs ys)).length≤48
  rw [List.length_map,List.length_range];omega
 ·show 2≤((List.range ((ny+1) * (nx+1))).map (gP nx xs ys)).length
  rw [List.length_map,List.length_range];omega
 ·intro p hp
  have hp:p∈(List.range ((ny+1) * (nx+1))).map (gP nx xs ys):=hp
  obtain ⟨i,hi,rfl⟩:=List.mem_map.1 hp
  have hi:=List.mem_range.1 hi
  have h1:i % (nx+1)≤nx:=by have:=Nat.mod_lt i (show 0<nx+1 by omega);omega
  have h2:i / (nx+1)≤ny:=by
   have:=Nat.div_lt_of_lt_mul (show i< (nx+1) * (ny+1) by rw [Nat.mul_comm];exact hi)
   omega
  exact ⟨(hX.bd _ h1).1,le1 hX h1,(hY.bd _ h2).1,le1 hY h2⟩
 ·intro i j hi hj
  have hi:i< ((List.range ((ny+1) * (nx+1))).map (gP nx xs ys)).length:=hi
  rw [List.length_map,List.length_range] at hi
  show ¬(((List.range ((ny+1) * (nx+1))).map (gP nx xs ys))[i].X=((List.range ((ny+1) * (nx+1))).map (gP nx xs ys))[j].X∧((List.range ((ny+1) * (nx+1))).map (gP nx xs ys))[i].Y=((List.range ((ny+1) * (nx+1))).map (gP nx xs ys))[j].Y)
  rw [List.getElem_map,List.getElem_map,List.getElem_range,List.getElem_range]
  rintro ⟨e1,e2⟩
  have h1:∀k:Nat,k % (nx+1)≤nx:=fun k=>by have:=Nat.mod_lt k (show 0<nx+1 by omega);omega
  have h2:∀k:Nat,k< (ny+1) * (nx+1)→k / (nx+1)≤ny:=fun k hk=>by
   have:=Nat.div_lt_of_lt_mul (show k< (nx+1) * (ny+1) by rw [Nat.mul_comm];exact hk)
   omega
  have f1:=hX.inj (h1 i) (h1 j) e1
  have f2:=hY.inj (h2 i hi) (h2 j (by omega)) e2
  have d1:=Nat.div_add_mod i (nx+1)
  have d2:=Nat.div_add_mod j (nx+1)
  rw [f1,f2] at d1
  omega
theorem cut_ok {c:List Int} (hc:∀x∈c,0≤x∧x≤255) {n:Int} (hn:n≤800000000) {d:S_Drawing} (hl:d.Faces.length≤9) (hB:∀f∈d.Faces,Base d.Points f):
 ∀(m k:Nat) (t:S_l00Src) (out:List S_Face),k+m=d.Faces.length→Cut d.Points ((d.Faces.take k).map (·.Name)) k out→Sr c (n+2*k) t→
  ∃r,loopO (spec_l05Cut_l3 d) ((k:Int),t.code,t.at_,t.seed,out)=some r∧Cut d.Points (d.Faces.map (·.Name)) d.Faces.length r.2.2.2∧Sr c (n+2*d.Faces.length) ⟨r.1,r.2.1,r.2.2.1⟩:=by
 intro m
 induction m with
 | zero=>
  intro k t out hk ho ht
  have hk:k=d.Faces.length:=by omega
  subst hk
  rw [List.take_length] at ho
  refine ⟨(t.code,t.at_,t.seed,out),loopO_done ?_,ho,ht⟩
  unfold spec_l05Cut_l3
  simp only
  rw [if_neg (by omega)]
 | succ m ih=>
  intro k t out hk ho ht
  have hk':k<d.Faces.length:=by omega
  obtain ⟨a,b,cc,dd,hr,f1,f2,f3⟩:=hB _ (List.getElem_mem hk')
  obtain ⟨v,t',e,ht'⟩:=one_ok hc (by omega) ht 3
  have e':spec_l00Src_one ⟨t.code,t.at_,t.seed⟩ 3=some (v,t'):=e
  obtain ⟨o1,o2,o3,o4⟩:=ho
  have hsz:=f1.2.1
  have hN:N2 ((d.Faces.take (k+1)).map (·.Name))=N2 ((d.Faces.take k).map (·.Name))++[d.Faces[k].Name,nmB d.Faces[k].Name]:=by
   unfold N2
   rw [List.take_succ_eq_append_getElem hk',List.map_append,List.flatMap_append]
   rfl
  have S1:∃out',spec_l05Cut_l3 d ((k:Int),t.code,t.at_,t.seed,out)=some (.inl (((k+1:Nat):Int),t'.code,t'.at_,t'.seed,out'))∧Cut d.Points ((d.Faces.take (k+1)).map (·.Name)) (k+1) out':=by
   unfold spec_l05Cut_l3 spec_l05Cut_k4
   simp only
   rw [if_pos (by omega),rd_lt hk',Option.bind_some,hr,if_pos (by rfl),e']
   simp only [Option.bind_some]
   cases v with
   | true=>
    rw [if_pos rfl]
    have q0:rd [a,b,cc,dd] 0=some a:=rfl
    have q1:rd [a,b,cc,dd] 1=some b:=rfl
    have q2:rd [a,b,cc,dd] 2=some cc:=rfl
    have q3:rd [a,b,cc,dd] 3=some dd:=rfl
    simp only [q0,q1,q2,q3,Option.bind_some]
    rw [apdn (by simp;omega),Option.bind_some,cat_some (by show _+1≤_;omega),Option.bind_some,apdn (by simp;omega),Option.bind_some,w64_succ (by omega)]
    refine ⟨_,rfl,by simp;omega,by simp;omega,?_,?_⟩
    ·rw [hN,List.map_append,List.map_append,List.append_assoc]
     exact o3.append (List.Sublist.refl _)
    ·intro f hf
     rcases List.mem_append.1 hf with hf | hf
     ·rcases List.mem_append.1 hf with hf | hf
      ·exact o4 f hf
      ·rw [List.mem_singleton.1 hf];exact f2
     ·rw [List.mem_singleton.1 hf];exact f3
   | false=>
    rw [if_neg (by decide),apdn (by simp;omega),Option.bind_some,w64_succ (by omega)]
    refine ⟨_,rfl,by simp;omega,by simp;omega,?_,?_⟩
    ·rw [hN,List.map_append]
     exact o3.append (by simp)
    ·intro f hf
     rcases List.mem_append.1 hf with hf | hf
     ·exact o4 f hf
     ·rw [List.mem_singleton.1 hf];exact f1
  obtain ⟨out',s1,s2⟩:=S1
  rw [loopO_next s1]
  exact ih (k+1) t' out' (by omega) s2 (ht'.mono (by omega))
theorem draw_dok {c:List Int} (hc:∀x∈c,0≤x∧x≤255) {n:Int} (hn:n≤700000000) {s:S_l00Src} (h:Sr c n s):∃d s',spec_l05Draw s=some (d,s')∧DOK d∧Sr c (n+50) s':=by
 obtain ⟨nx,ny,xs,ys,s1,g1,g2,g3,g4,g5,g6,g7,g8⟩:=grid_ok hc (by omega) h
 obtain ⟨v,s2,e2,h2⟩:=one_ok hc (by omega) g7 2
 have hB:∀f∈(List.range (ny*nx)).map (gF nx),Base ((List.range ((ny+1) * (nx+1))).map (gP nx xs ys)) f:=by
  intro f hf
  obtain ⟨i,hi,rfl⟩:=List.mem_map.1 hf
  have hi:=List.mem_range.1 hi
  exact base_ok g2 g4 g5 g6 (Nat.div_lt_of_lt_mul (by rw [Nat.mul_comm];exact hi)) (Nat.mod_lt _ (by omega))
 have hnm:((List.range (ny*nx)).map (gF nx)).map (·.Name)=(List.range (ny*nx)).map fun i=>gnm (i / nx) (i % nx):=by
  rw [List.map_map];rfl
 have hfl:ny*nx≤9:=by have:=Nat.mul_le_mul g4 g2;omega
 unfold spec_l05Draw spec_l05Draw_k4
 rw [g8,Option.bind_some]
 simp only
 rw [e2,Option.bind_some]
 cases v with
 | false=>
  simp only [Bool.false_eq_true,if_false]
  refine ⟨_,_,rfl,grid_dok g1 g2 g3 g4 g5 g6 ⟨by rw [List.length_map,List.length_range];omega,by rw [List.length_map,List.length_range];omega,?_,fun f hf=>?_⟩,h2.mono (by omega)⟩
  ·rw [hnm]
   unfold N2
   generalize (List.range (ny*nx)).map (fun i=>gnm (i / nx) (i % nx))=L
   induction L with
   | nil=>exact List.Sublist.slnil
   | cons a L ih=>
    rw [List.flatMap_cons]
    exact List.Sublist.cons_cons _ (List.Sublist.cons _ ih)
  ·obtain ⟨_,_,_,_,_,f1,_⟩:=hB f hf
   exact f1
 | true=>
  simp only [if_true]
  have hd:((⟨xs.getD nx 0,ys.getD ny 0,(List.range ((ny+1) * (nx+1))).map (gP nx xs ys),(List.range (ny*nx)).map (gF nx)⟩:S_Drawing)).Faces.length≤9:=by
   show ((List.range (ny*nx)).map (gF nx)).length≤9
   rw [List.length_map,List.length_range];exact hfl
  obtain ⟨⟨r1,r2,r3,out⟩,q1,q2,q3⟩:=cut_ok hc (n:=n+22) (by omega) hd hB _ 0 s2 [] (Nat.zero_add _) ⟨by simp,by simp,by simp [N2],by simp⟩ (h2.mono (by omega))
  have q1:loopO (spec_l05Cut_l3 ⟨xs.getD nx 0,ys.getD ny 0,(List.range ((ny+1) * (nx+1))).map (gP nx xs ys),(List.range (ny*nx)).map (gF nx)⟩) (0,s2.code,s2.at_,s2.seed,[])=_:=q1
  unfold spec_l05Cut
  rw [q1]
  simp only [Option.bind_some]
  simp only [List.length_map,List.length_range] at q2 q3
  rw [hnm] at q2
  exact ⟨_,_,rfl,grid_dok g1 g2 g3 g4 g5 g6 q2,q3.mono (by omega)⟩
def SB (d:S_Drawing):Prop:=d.Points.length≤100∧d.Faces.length≤100∧∀f∈d.Faces,f.Name.size≤20∧f.Ring.length≤10
theorem SB.bd {d:S_Drawing} (h:SB d):bd_S_Drawing d:=by
 obtain ⟨h1,h2,h3⟩:=h
 refine ⟨trivial,trivial,⟨by omega,fun a _=>⟨trivial,trivial⟩⟩,by omega,fun a ha=>?_⟩
 obtain ⟨k1,k2⟩:=h3 a ha
 exact ⟨by omega,by omega,fun _ _=>trivial⟩
theorem DOK.sb {d:S_Drawing} (h:DOK d):SB d:=by
 have h1:=h.pl
 have h2:=h.fl
 refine ⟨by omega,by omega,fun f hf=>?_⟩
 obtain ⟨_,k1,k2,_⟩:=h.fok f hf
 exact ⟨by omega,by omega⟩
theorem slc1 {α:Type} {l:List α} (h:1≤l.length):slc l 1 (l.length:Int)=some ((l.take ((l.length:Int).toNat)).drop ((1:Int).toNat)):=by
 unfold slc
 rw [if_pos ⟨by omega,by omega,by omega⟩]
theorem text_in {c:List Int} (hc:∀x∈c,0≤x∧x≤255) {n:Int} (hn:n≤999999999) {s:S_l00Src} (h:Sr c n s) (l:List ByteArray) (hl:1≤l.length):∃v s',spec_l00Src_text s l=some (v,s')∧v∈l∧Sr c (n+2) s':=by
 obtain ⟨v,s',e,v1,v2,h'⟩:=pick_ok hc hn h (l.length:Int)
 have v3:=v2 (by omega)
 obtain ⟨i,hi⟩:∃i:Nat,v=(i:Int):=⟨v.toNat,by omega⟩
 subst hi
 have hlt:i<l.length:=by omega
 unfold spec_l00Src_text
 rw [e]
 simp only [Option.bind_some,rd_lt hlt]
 exact ⟨_,_,rfl,List.getElem_mem hlt,h'⟩
theorem rd_in {α:Type} {l:List α} {v:Int} (h0:0≤v) (h1:v<l.length):∃y,rd l v=some y∧y∈l:=by
 obtain ⟨i,rfl⟩:∃i:Nat,v=(i:Int):=⟨v.toNat,by omega⟩
 exact ⟨_,rd_lt (by omega),List.getElem_mem (by omega)⟩
theorem ring_sb {c:List Int} (hc:∀x∈c,0≤x∧x≤255) {n:Int} (hn:n≤600000000) {s:S_l00Src} (h:Sr c n s):∃d s',spec_l23Ring s=some (d,s')∧SB d∧Sr c (n+100) s':=by
 obtain ⟨v1,s1,e1,_,_,h1⟩:=pick_ok hc (by omega) h 50
 obtain ⟨v2,s2,e2,_,_,h2⟩:=pick_ok hc (by omega) h1 50
 obtain ⟨v3,s3,e3,_,_,h3⟩:=pick_ok hc (by omega) h2 50
 obtain ⟨v4,s4,e4,h4⟩:=one_ok hc (by omega) h3 3
 obtain ⟨v5,s5,e5,h5⟩:=one_ok hc (by omega) h4 4
 have k10:∀(a b x:Int×S_l00Src) (F:List S_Face),F.length≤100→(∀f∈F,f.Name.size≤20∧f.Ring.length≤10)→∃d s',spec_l23Ring_k10 a b (v5,s5) x F=some (d,s')∧SB d∧Sr c (n+100) s':=by
  intro a b x F hF1 hF2
  exact ⟨_,_,rfl,⟨by show 8≤100;omega,hF1,hF2⟩,h5.mono (by omega)⟩
 have k8:∀(a b x:Int×S_l00Src) (F:List S_Face),F.length≤100→(∀f∈F,f.Name.size≤20∧f.Ring.length≤10)→∃d s',spec_l23Ring_k8 a b (v4,s4) x F=some (d,s')∧SB d∧Sr c (n+100) s':=by
  intro a b x F hF1 hF2
  unfold spec_l23Ring_k8
  rw [e5,Option.bind_some]
  cases v5 with
  | true=>
   simp only [if_true]
   exact k10 _ _ _ _ (by show 1≤100;omega) (fun f hf=>by rw [List.mem_singleton.1 hf];exact ⟨by show 1≤20;omega,by show 4≤10;omega⟩)
  | false=>
   simp only [Bool.false_eq_true,if_false]
   exact k10 _ _ _ _ hF1 hF2
 have five:∀f∈([(⟨(⟨#[97]⟩:ByteArray),([0,1,5,4]:List Int)⟩:S_Face),(⟨(⟨#[98]⟩:ByteArray),([1,2,6,5]:List Int)⟩:S_Face),(⟨(⟨#[99]⟩:ByteArray),([2,3,7,6]:List Int)⟩:S_Face),(⟨(⟨#[100]⟩:ByteArray),([3,0,4,7]:List Int)⟩:S_Face),(⟨(⟨#[101]⟩:ByteArray),([4,5,6,7]:List Int)⟩:S_Face)]:List S_Face),f.Name.size≤20∧f.Ring.length≤10:=by
  intro f hf
  simp only [List.mem_cons,List.not_mem_nil,or_false] at hf
  rcases hf with rfl | rfl | rfl | rfl | rfl<;>exact ⟨by show 1≤20;omega,by show 4≤10;omega⟩
 unfold spec_l23Ring
 rw [e1,Option.bind_some,e2,Option.bind_some,e3,Option.bind_some,e4,Option.bind_some]
 cases v4 with
 | true=>
  simp only [if_true]
  rw [slc1 (by show 1≤5;omega),Option.bind_some]
  exact k8 _ _ _ _ (by show 4≤100;omega) (fun f hf=>five f (List.mem_of_mem_take (List.mem_of_mem_drop hf)))
 | false=>
  simp only [Bool.false_eq_true,if_false]
  exact k8 _ _ _ _ (by show 5≤100;omega) five
theorem bent_loop {x91:Int×S_l00Src} (h0:0≤x91.1) (h3:x91.1<3):
 ∀(m k:Nat) (P:List S_Point) (F:List S_Face),(k:Int)+m=23+x91.1→P.length≤2*k→F.length≤k→(∀f∈F,f.Name.size≤20∧f.Ring.length≤10)→
  ∃r,loopO (spec_l05Bent_l22 x91) ((k:Int),P,F)=some r∧r.1.length≤50∧r.2.length≤25∧(∀f∈r.2,f.Name.size≤20∧f.Ring.length≤10):=by
 intro m
 induction m with
 | zero=>
  intro k P F hk hP hF hf
  refine ⟨(P,F),loopO_done ?_,by show P.length≤50;omega,by show F.length≤25;omega,hf⟩
  unfold spec_l05Bent_l22
  simp only
  rw [w64_id (n:=23+x91.1) (by omega) (by omega),if_neg (by omega)]
 | succ m ih=>
  intro k P F hk hP hF hf
  have hcat:∀z:Int,cat (⟨#[102]⟩:ByteArray) (strOf [z])=some ((⟨#[102]⟩:ByteArray)++strOf [z]):=fun z=>cat_some (by
   show 1+1≤_
   omega)
  have S1:∃P' F',spec_l05Bent_l22 x91 ((k:Int),P,F)=some (.inl (((k+1:Nat):Int),P',F'))∧P'.length≤2* (k+1)∧F'.length≤k+1∧(∀f∈F',f.Name.size≤20∧f.Ring.length≤10):=by
   unfold spec_l05Bent_l22 spec_l05Bent_k23
   simp only
   rw [w64_id (n:=23+x91.1) (by omega) (by omega),if_pos (by omega),apdn (by simp;omega),Option.bind_some]
   by_cases c0:(k:Int) >0
   ·rw [if_pos c0,hcat,Option.bind_some,apdn (by simp;omega),Option.bind_some,w64_succ (by omega)]
    refine ⟨_,_,rfl,by simp;omega,by simp;omega,fun f hf'=>?_⟩
    rcases List.mem_append.1 hf' with hf' | hf'
    ·exact hf f hf'
    ·rw [List.mem_singleton.1 hf']
     exact ⟨by show (_++_:ByteArray).size≤20;rw [ByteArray.size_append];show 1+1≤20;omega,by show 4≤10;omega⟩
   ·rw [if_neg c0,w64_succ (by omega)]
    exact ⟨_,_,rfl,by simp;omega,by omega,hf⟩
  obtain ⟨P',F',s1,s2,s3,s4⟩:=S1
  rw [loopO_next s1]
  exact ih (k+1) P' F' (by omega) s2 s3 s4
theorem bent_sb {c:List Int} (hc:∀x∈c,0≤x∧x≤255) {n:Int} (hn:n≤600000000) {s:S_l00Src} (h:Sr c n s):∃d s',spec_l05Bent s=some (d,s')∧SB d∧Sr c (n+100) s':=by
 obtain ⟨d,s1,e1,hd,h1⟩:=draw_dok hc (by omega) h
 obtain ⟨v,s2,e2,v0,v1,h2⟩:=pick_ok hc (by omega) h1 16
 obtain ⟨b1,b2,b3⟩:=hd.sb
 have p0:=hd.pl0
 have f0:=hd.fl0
 have pl:=hd.pl
 have fl:=hd.fl
 have k29:∀(t:S_l00Src) (w h:Int) (P:List S_Point) (F:List S_Face),Sr c (n+100) t→P.length≤100→F.length≤100→(∀f∈F,f.Name.size≤20∧f.Ring.length≤10)→∃d s',spec_l05Bent_k29 t.code t.at_ t.seed w h P F=some (d,s')∧SB d∧Sr c (n+100) s':=
  fun t w h P F ht hP hF hf=>⟨_,_,rfl,⟨hP,hF,hf⟩,ht⟩
 have hset:∀(i:Nat) (x:S_Face),x.Name.size≤20→x.Ring.length≤10→∀f∈d.Faces.set i x,f.Name.size≤20∧f.Ring.length≤10:=by
  intro i x h1 h2 f hf
  rcases List.mem_or_eq_of_mem_set hf with hf | rfl
  ·exact b3 f hf
  ·exact ⟨h1,h2⟩
 unfold spec_l05Bent
 rw [e1,Option.bind_some]
 simp only
 rw [e2,Option.bind_some]
 simp only
 by_cases c0:v=0
 ·rw [if_pos c0,slc1 f0,Option.bind_some]
  exact k29 _ _ _ _ _ (h2.mono (by omega)) b1 (by simp;omega) (fun f hf=>b3 f (List.mem_of_mem_take (List.mem_of_mem_drop hf)))
 rw [if_neg c0]
 by_cases c1:v=1
 ·rw [if_pos c1,apdn (by simp;omega),Option.bind_some]
  exact k29 _ _ _ _ _ (h2.mono (by omega)) (by simp;omega) b2 b3
 rw [if_neg c1]
 by_cases c2:v=2
 ·rw [if_pos c2]
  obtain ⟨a,s3,e3,_,h3⟩:=among_ok hc (by omega) h2 [(w64 (d.Width+5)),9,10,20000,20001] (by simp)
  rw [e3,Option.bind_some]
  exact k29 _ _ _ _ _ (h3.mono (by omega)) b1 b2 b3
 rw [if_neg c2]
 by_cases c3:v=3
 ·rw [if_pos c3]
  obtain ⟨a,s3,e3,a0,a1,h3⟩:=pick_ok hc (by omega) h2 (d.Faces.length:Int)
  obtain ⟨y,y1,y2⟩:=rd_in (l:=d.Faces) a0 (a1 (by omega))
  rw [e3,Option.bind_some]
  simp only
  rw [y1,Option.bind_some]
  exact k29 _ _ _ _ _ (h3.mono (by omega)) b1 (by simp;omega) (hset _ _ (b3 y y2).1 (by show 3≤10;omega))
 rw [if_neg c3]
 by_cases c4:v=4
 ·rw [if_pos c4]
  obtain ⟨a,s3,e3,a0,a1,h3⟩:=pick_ok hc (by omega) h2 (d.Faces.length:Int)
  obtain ⟨y,y1,y2⟩:=rd_in (l:=d.Faces) a0 (a1 (by omega))
  have hnm:∃nm s4,spec_l01DrawName s3=some (nm,s4)∧nm.size≤20∧Sr c (n+90) s4:=by
   unfold spec_l01DrawName
   obtain ⟨nm,s4,e4,hm,h4⟩:=text_in hc (by omega) h3 ([(⟨#[97]⟩:ByteArray),(⟨#[98]⟩:ByteArray),(⟨#[99]⟩:ByteArray),(⟨#[111,97,107]⟩:ByteArray),(⟨#[115,116,97,114,55]⟩:ByteArray),(⟨#[114,111,115,101]⟩:ByteArray),(⟨#[120,57]⟩:ByteArray),(⟨#[97,98,99,100,101,102,103,104,105,106]⟩:ByteArray),(⟨#[97,98,99,100,101,102,103,104,105,106,107]⟩:ByteArray),(⟨#[65]⟩:ByteArray),(⟨#[]⟩:ByteArray),(⟨#[49,97]⟩:ByteArray),(⟨#[97,45,98]⟩:ByteArray)]:List ByteArray) (by simp)
   rw [e4,Option.bind_some]
   have hs:nm.size≤20:=by
    clear e4
    simp only [List.mem_cons,List.not_mem_nil,or_false] at hm
    rcases hm with rfl | rfl | rfl | rfl | rfl | rfl | rfl | rfl | rfl | rfl | rfl | rfl | rfl<;>decide
   exact ⟨_,_,rfl,hs,h4.mono (by omega)⟩
  obtain ⟨nm,s4,e4,n1,h4⟩:=hnm
  rw [e3,Option.bind_some]
  simp only
  rw [e4,Option.bind_some]
  simp only
  rw [y1,Option.bind_some]
  exact k29 _ _ _ _ _ (h4.mono (by omega)) b1 (by simp;omega) (hset _ _ n1 (b3 y y2).2)
 rw [if_neg c4]
 by_cases c5:v=5
 ·rw [if_pos c5]
  obtain ⟨a,s3,e3,a0,a1,h3⟩:=pick_ok hc (by omega) h2 (d.Faces.length:Int)
  obtain ⟨y,y1,y2⟩:=rd_in (l:=d.Faces) a0 (a1 (by omega))
  obtain ⟨z,s4,e4,_,h4⟩:=among_ok hc (by omega) h3 [1,(-1),(d.Points.length:Int)] (by simp)
  rw [e3,Option.bind_some]
  simp only
  rw [e4,Option.bind_some,y1,Option.bind_some]
  exact k29 _ _ _ _ _ (h4.mono (by omega)) b1 (by simp;omega) (hset _ _ (b3 y y2).1 (by show 2≤10;omega))
 rw [if_neg c5]
 by_cases c6:v=6
 ·rw [if_pos c6]
  obtain ⟨y,y1,_⟩:=rd_in (l:=d.Points) (v:=0) (by omega) (by omega)
  obtain ⟨z,z1,_⟩:=rd_in (l:=d.Points) (v:=1) (by omega) (by omega)
  rw [y1,Option.bind_some,z1,Option.bind_some]
  exact k29 _ _ _ _ _ (h2.mono (by omega)) (by simp;omega) b2 b3
 rw [if_neg c6]
 by_cases c7:v=7
 ·rw [if_pos c7]
  obtain ⟨a,s3,e3,a0,a1,h3⟩:=pick_ok hc (by omega) h2 3
  obtain ⟨⟨P,F⟩,q1,q2,q3,q4⟩:=bent_loop (x91:=(a,s3)) a0 (a1 (by omega)) (23+a).toNat 0 [] [] (by show ((0:Nat):Int)+_=23+a;omega) (by simp) (by simp) (by simp)
  have q1:loopO (spec_l05Bent_l22 (a,s3)) (0,[],[])=_:=q1
  rw [e3,Option.bind_some,q1,Option.bind_some]
  exact k29 _ _ _ _ _ (h3.mono (by omega)) (by have q2:P.length≤50:=q2;omega) (by have q3:F.length≤25:=q3;omega) q4
 rw [if_neg c7]
 by_cases c8:v=8
 ·rw [if_pos c8]
  obtain ⟨a,s3,e3,a0,a1,h3⟩:=pick_ok hc (by omega) h2 (d.Points.length:Int)
  obtain ⟨y,y1,y2⟩:=rd_in (l:=d.Points) a0 (a1 (by omega))
  obtain ⟨z,s4,e4,_,_,h4⟩:=pick_ok hc (by omega) h3 30
  rw [e3,Option.bind_some]
  simp only
  rw [y1,Option.bind_some,e4,Option.bind_some,Option.bind_some]
  exact k29 _ _ _ _ _ (h4.mono (by omega)) (by simp;omega) b2 b3
 rw [if_neg c8]
 exact k29 _ _ _ _ _ (h2.mono (by omega)) b1 b2 b3
theorem panel_ok {c:List Int} (hc:∀x∈c,0≤x∧x≤255):∃d,spec_R8Panel c=some d∧impl_ValidDrawing d=some true∧bd_S_Drawing d:=by
 obtain ⟨s0,e0,h0⟩:=from_ok c
 obtain ⟨v,s1,e1,h1⟩:=one_ok hc (by omega) h0 2
 have hd:∃d s',spec_l23Draw s0=some (d,s')∧SB d∧Sr c 200 s':=by
  unfold spec_l23Draw
  rw [e1,Option.bind_some]
  cases v with
  | true=>
   obtain ⟨d,s2,e2,d2,h2⟩:=ring_sb hc (by omega) h1
   simp only [if_true]
   rw [e2]
   exact ⟨d,s2,rfl,d2,h2.mono (by omega)⟩
  | false=>
   obtain ⟨d,s2,e2,d2,h2⟩:=bent_sb hc (by omega) h1
   simp only [Bool.false_eq_true,if_false]
   rw [e2]
   exact ⟨d,s2,rfl,d2,h2.mono (by omega)⟩
 obtain ⟨d,s2,e2,d2,h2⟩:=hd
 obtain ⟨w,w1,w2⟩:=draw_ok d d2.bd
 unfold spec_R8Panel
 rw [e0,Option.bind_some,e2,Option.bind_some]
 simp only
 rw [w1,Option.bind_some]
 cases w with
 | true=>exact ⟨d,by simp,w2,d2.bd⟩
 | false=>
  obtain ⟨d',s3,e3,d3,_⟩:=draw_dok hc (by omega) h2
  rw [if_neg (by simp),e3]
  exact ⟨d',rfl,dok_valid d3,d3.sb.bd⟩
theorem has_impl (l:List Int) (n:Int) (hl:l.length≤1048576):slices_Contains_int64_int64 l n=some (decide (n∈l)):=by
 unfold slices_Contains_int64_int64 slices_Index_int64_int64
 rcases scanAll (f:=slices_Index_int64_int64_l2 l n) l (fun x=>!decide (n=x)) (fun i=>(i:Int)) (by omega) (fun i hi=>by
  unfold slices_Index_int64_int64_l2
  rw [if_pos (by omega),rd_lt hi,Option.bind_some]
  by_cases c:n=l[i]<;>simp [c]) (by unfold slices_Index_int64_int64_l2;rw [if_neg (by omega)]) with ⟨h1,h2⟩ | ⟨h1,i,hi,h2⟩
 ·rw [h2]
  have:¬n∈l:=fun h=>by
   have:=List.all_eq_true.1 h1 n h
   simp at this
  simp [this]
 ·rw [h2]
  have:n∈l:=by
   rw [List.all_eq_false] at h1
   obtain ⟨x,hx,h⟩:=h1
   simp at h
   exact h ▸ hx
  simp [this]
def er {α:Type} (R:List α):List (α×α):=R.zip (R.drop 1++R.take 1)
theorem er_len {α:Type} (R:List α):(er R).length=R.length:=by
 unfold er
 rw [List.length_zip,List.length_append,List.length_drop,List.length_take]
 omega
theorem er_get {α:Type} {R:List α} {j:Nat} (h:j<R.length):∃h2:(j+1) % R.length<R.length,(er R)[j]'(by rw [er_len];exact h)=(R[j],R[(j+1) % R.length]):=by
 have h2:(j+1) % R.length<R.length:=Nat.mod_lt _ (by omega)
 refine ⟨h2,?_⟩
 unfold er
 rw [List.getElem_zip]
 congr 1
 by_cases c:j+1<R.length
 ·rw [List.getElem_append_left (by rw [List.length_drop];omega),List.getElem_drop]
  congr 1
  rw [Nat.mod_eq_of_lt c];omega
 ·have e:j+1=R.length:=by omega
  rw [List.getElem_append_right (by rw [List.length_drop];omega),List.getElem_take]
  congr 1
  rw [List.length_drop,e,Nat.mod_self];omega
theorem er_rd {α:Type} {R:List α} (hR:R.length≤1048576) {j:Nat} (h:j<R.length):rd R (j:Int)=some ((er R)[j]'(by rw [er_len];exact h)).1∧md (w64 ((j:Int)+1)) (R.length:Int)=some (((j+1) % R.length:Nat):Int)∧rd R (((j+1) % R.length:Nat):Int)=some ((er R)[j]'(by rw [er_len];exact h)).2:=by
 obtain ⟨h2,h3⟩:=er_get h
 rw [h3]
 exact ⟨rd_lt h,by rw [w64_succ (by omega)];exact md_nat (by omega),rd_lt h2⟩
theorem any_take {α:Type} {l:List α} {p:α→Bool} {i:Nat} (h:i<l.length):(l.take (i+1)).any p=((l.take i).any p||p l[i]):=by
 rw [List.take_succ_eq_append_getElem h,List.any_append,List.any_cons,List.any_nil,Bool.or_false]
def he (p q:Int×Int):Bool:=decide (q.1=p.1∧q.2=p.2∨q.1=p.2∧q.2=p.1)
def fc (R S:List Int):Bool:=(er R).any fun p=>(er S).any (he p)
def rg (d:S_Drawing) (k:Nat):List Int:=match d.Faces[k]? with | some f=>f.Ring | none=>[]
def nearP (d:S_Drawing) (k n:Nat):List Int:=((List.range n).filter fun m=>decide (m≠k)&&fc (rg d k) (rg d m)).map fun m:Nat=>(m:Int)
theorem rg_lt {d:S_Drawing} {k:Nat} (h:k<d.Faces.length):rg d k=d.Faces[k].Ring:=by
 unfold rg
 rw [List.getElem?_eq_getElem h]
theorem nearP_succ (d:S_Drawing) (k n:Nat):nearP d k (n+1)=if n≠k∧fc (rg d k) (rg d n)=true then nearP d k n++[(n:Int)] else nearP d k n:=by
 unfold nearP
 rw [List.range_succ,List.filter_append,List.map_append]
 by_cases c:n≠k∧fc (rg d k) (rg d n)=true
 ·rw [if_pos c,List.filter_cons_of_pos (by simp [c.1,c.2])];rfl
 ·rw [if_neg c,List.filter_cons_of_neg (by simpa using c),List.filter_nil,List.map_nil,List.append_nil]
theorem nearP_len (d:S_Drawing) (k n:Nat):(nearP d k n).length≤n:=by
 unfold nearP
 rw [List.length_map]
 exact Nat.le_trans (List.length_filter_le _ (List.range n)) (Nat.le_of_eq List.length_range)
def bR (d:S_Drawing):Prop:=d.Faces.length≤1048576∧∀f∈d.Faces,f.Ring.length≤1048576
theorem bR_rg {d:S_Drawing} (h:bR d) (k:Nat):(rg d k).length≤1048576:=by
 unfold rg
 cases e:d.Faces[k]? with
 | none=>simp
 | some f=>exact h.2 f (List.mem_of_getElem? e)
def mm (p:Int×Int):Ar2_Int:=⟨min2 p.1 p.2,max2 p.1 p.2⟩
theorem mm_eq (p q:Int×Int):((mm p).e0=(mm q).e0∧(mm p).e1=(mm q).e1)↔he p q=true:=by
 obtain ⟨a,b⟩:=p
 obtain ⟨c,d⟩:=q
 unfold mm he
 simp only [decide_eq_true_eq]
 rcases min2_cases a b with h1 | h1<;>rcases min2_cases c d with h2 | h2<;>rcases max2_cases a b with h3 | h3<;>rcases max2_cases c d with h4 | h4<;>rw [h1.2,h2.2,h3.2,h4.2]<;>omega
theorem ringEdges_eq (R:List Int) (hR:R.length≤1048576):impl_ringEdges R=some ((er R).map mm):=by
 unfold impl_ringEdges
 have e:loopO (impl_ringEdges_l3 R) (0,[])=some ((er R).map mm):=by
  refine loopO_for (fun j:Nat=>((j:Int),((er R).take j).map mm)) R.length (fun j hj=>?_) ?_
  ·obtain ⟨e1,e2,e3⟩:=er_rd hR hj
   unfold impl_ringEdges_l3
   simp only
   rw [if_pos (by omega),e1,Option.bind_some,e2,Option.bind_some,e3,Option.bind_some,apdn (by rw [List.length_map,List.length_take,List.length_singleton];omega),Option.bind_some,w64_succ (by omega),List.take_succ_eq_append_getElem (by rw [er_len];exact hj),List.map_append]
   rfl
  ·unfold impl_ringEdges_l3
   simp only
   rw [if_neg (by omega),List.take_of_length_le (by rw [er_len];exact Nat.le_refl _)]
 rw [e];rfl
theorem has2 (L:List (Int×Int)) (hL:L.length≤1048576) (p:Int×Int):slices_Contains_2_int64_2_int64 (L.map mm) (mm p)=some (L.any (he p)):=by
 unfold slices_Contains_2_int64_2_int64 slices_Index_2_int64_2_int64
 rcases scanFind (f:=slices_Index_2_int64_2_int64_l2 (L.map mm) (mm p)) L (he p) (fun k=>(k:Int)) (by omega) (fun i hi=>by
  unfold slices_Index_2_int64_2_int64_l2
  rw [List.length_map,if_pos (by omega),rd_lt (by rw [List.length_map];exact hi),Option.bind_some,List.getElem_map]
  by_cases c:he p L[i]=true
  ·rw [if_pos ((mm_eq _ _).2 c),if_pos c]
  ·rw [if_neg (fun h=>c ((mm_eq _ _).1 h)),if_neg c]) (by unfold slices_Index_2_int64_2_int64_l2;rw [List.length_map,if_neg (by omega)]) with ⟨h1,h2⟩ | ⟨i,hi,h1,_,h2⟩
 ·rw [h2,List.any_eq_false.2 fun x hx=>by simpa using h1 x hx]
  rfl
 ·rw [h2,List.any_eq_true.2 ⟨_,List.getElem_mem hi,h1⟩]
  show some (decide ((i:Int)≥0))=_
  rw [decide_eq_true (by omega)]
theorem hasF2 {f:Ar2_Int→Option Bool} {V:Int×Int→Bool} (L:List (Int×Int)) (hL:L.length≤1048576) (hf:∀p,f (mm p)=some (V p)):slices_ContainsFunc_2_int64_2_int64 (L.map mm) f=some (L.any V):=by
 unfold slices_ContainsFunc_2_int64_2_int64 slices_IndexFunc_2_int64_2_int64
 rcases scanFind (f:=slices_IndexFunc_2_int64_2_int64_l2 f (L.map mm)) L V (fun k=>(k:Int)) (by omega) (fun i hi=>by
  unfold slices_IndexFunc_2_int64_2_int64_l2
  rw [List.length_map,if_pos (by omega),rd_lt (by rw [List.length_map];exact hi),Option.bind_some,List.getElem_map,hf]
  rfl) (by unfold slices_IndexFunc_2_int64_2_int64_l2;rw [List.length_map,if_neg (by omega)]) with ⟨h1,h2⟩ | ⟨i,hi,h1,_,h2⟩
 ·rw [h2,List.any_eq_false.2 fun x hx=>by simpa using h1 x hx]
  rfl
 ·rw [h2,List.any_eq_true.2 ⟨_,List.getElem_mem hi,h1⟩]
  show some (decide ((i:Int)≥0))=_
  rw [decide_eq_true (by omega)]
def edgesP (d:S_Drawing) (n:Nat):List (List Ar2_Int):=(List.range n).map fun k=>(er (rg d k)).map mm
def rowsP {β:Type} (g:Nat→β) (z:β) (t n:Nat):List β:=(List.range t).map g++List.replicate (n - t) z
theorem rowsP_len {β:Type} {g:Nat→β} {z:β} {t n:Nat} (h:t≤n):(rowsP g z t n).length=n:=by
 unfold rowsP
 rw [List.length_append,List.length_map,List.length_range,List.length_replicate];omega
theorem rowsP_get {β:Type} {g:Nat→β} {z:β} {t n:Nat} (h:t<n):rd (rowsP g z t n) (t:Int)=some z:=by
 have hl:=rowsP_len (g:=g) (z:=z) (Nat.le_of_lt h)
 rw [rd_lt (by omega)]
 unfold rowsP
 rw [List.getElem_append_right (by simp),List.getElem_replicate]
theorem rowsP_set {β:Type} {g:Nat→β} {z:β} {t n:Nat} (h:t<n):(rowsP g z t n).set t (g t)=rowsP g z (t+1) n:=by
 unfold rowsP
 rw [List.set_append_right _ _ (by simp),List.length_map,List.length_range,Nat.sub_self,List.range_succ,List.map_append,List.append_assoc]
 congr 1
 rw [show n - t=(n - (t+1))+1 by omega,List.replicate_succ,List.set_cons_zero]
 rfl
theorem rowsP_all {β:Type} {g:Nat→β} {z:β} {n:Nat}:rowsP g z n n=(List.range n).map g:=by
 unfold rowsP
 rw [Nat.sub_self,List.replicate_zero,List.append_nil]
theorem rowsP_same {β:Type} {g:Nat→β} {z:β} {t n:Nat} (h:t<n):(rowsP g z t n).set t z=rowsP g z t n:=by
 have h1:=rowsP_get (g:=g) (z:=z) h
 rw [rd_nat] at h1
 obtain ⟨h2,h3⟩:=List.getElem?_eq_some_iff.1 h1
 apply List.ext_getElem?
 intro j
 by_cases c:j=t
 ·subst c;rw [List.getElem?_set_self h2,h1]
 ·rw [List.getElem?_set_ne (by omega)]
theorem rd_set {α:Type} {l:List α} {t:Nat} {x:α} (h:t<l.length):rd (l.set t x) (t:Int)=some x:=by
 rw [rd_nat,List.getElem?_set_self h]
theorem near_impl {d:S_Drawing} (hb:bR d):impl_neighbours d=some ((List.range d.Faces.length).map fun k=>nearP d k d.Faces.length):=by
 have hF:=hb.1
 unfold impl_neighbours
 have e:loopO (impl_neighbours_l3 d) (0,[])=some (edgesP d d.Faces.length):=by
  refine loopO_for (fun t:Nat=>((t:Int),edgesP d t)) d.Faces.length (fun t ht=>?_) ?_
  ·unfold impl_neighbours_l3
   simp only
   rw [if_pos (by omega),rd_lt ht,Option.bind_some,ringEdges_eq _ (hb.2 _ (List.getElem_mem ht)),Option.bind_some,apdn (by unfold edgesP;rw [List.length_map,List.length_range,List.length_singleton];omega),Option.bind_some,w64_succ (by omega)]
   unfold edgesP
   rw [List.range_succ,List.map_append,List.map_singleton,rg_lt ht]
  ·unfold impl_neighbours_l3
   simp only
   rw [if_neg (by omega)]
 rw [e]
 have hl:(edgesP d d.Faces.length).length=d.Faces.length:=by unfold edgesP;rw [List.length_map,List.length_range]
 simp only [Option.bind_some,hl]
 unfold mkl
 rw [if_pos ⟨by omega,by omega⟩,Option.bind_some]
 have ed:∀k:Nat,k<d.Faces.length→rd (edgesP d d.Faces.length) (k:Int)=some ((er (rg d k)).map mm):=by
  intro k hk
  rw [rd_lt (by omega)]
  unfold edgesP
  rw [List.getElem_map,List.getElem_range]
 have inner:∀(t:Nat),t<d.Faces.length→∀(out:List (List Int)),out.length=d.Faces.length→out.set t []=out→loopO (impl_neighbours_l12 (edgesP d d.Faces.length) (t:Int)) (0,out)=some (out.set t (nearP d t d.Faces.length)):=by
  intro t ht out ho hz
  have h0:(((0:Nat):Int),out.set t (nearP d t 0))=((0:Int),out):=by
   rw [show nearP d t 0=[] from rfl,hz];rfl
  rw [←h0]
  refine loopO_for (fun m:Nat=>((m:Int),out.set t (nearP d t m))) d.Faces.length (fun m hm=>?_) ?_
  ·have hn:=nearP_len d t m
   unfold impl_neighbours_l12
   simp only
   rw [hl,if_pos (by omega),nearP_succ]
   unfold impl_neighbours_k16
   rw [w64_succ (by omega)]
   by_cases c1:m=t
   ·subst c1
    simp only [ne_eq,not_true_eq_false,if_false,false_and,Option.bind_some,Bool.false_eq_true]
   ·rw [if_pos (show (t:Int)≠(m:Int) by omega),ed t ht]
    have hc:∀p:Int×Int,impl_neighbours_c1 (mm p) (edgesP d d.Faces.length) (m:Int)=some ((er (rg d m)).any (he p)):=by
     intro p
     unfold impl_neighbours_c1
     rw [ed m hm,Option.bind_some,has2 _ (by rw [er_len];exact bR_rg hb m),Option.bind_some]
    simp only [Option.bind_some]
    rw [hasF2 (V:=fun p=>(er (rg d m)).any (he p)) (er (rg d t)) (by rw [er_len];exact bR_rg hb t) hc]
    simp only [Option.bind_some]
    rw [show ((er (rg d t)).any fun p=>(er (rg d m)).any (he p))=fc (rg d t) (rg d m) from rfl]
    rw [rd_set (by omega)]
    cases hfc:fc (rg d t) (rg d m) with
    | false=>simp
    | true=>
     simp only [if_true,Option.bind_some,and_true]
     rw [if_pos c1,apdn (by simp only [List.length_singleton];omega),Option.bind_some,show ((t:Int)).toNat=t from rfl,List.set_set]
  ·unfold impl_neighbours_l12
   simp only
   rw [hl,if_neg (by omega)]
 have h0:(((0:Nat):Int),rowsP (fun k=>nearP d k d.Faces.length) [] 0 d.Faces.length)=((0:Int),List.replicate (d.Faces.length:Int).toNat ([]:List Int)):=by
  unfold rowsP
  simp
 rw [←h0]
 have e2:loopO (impl_neighbours_l9 (edgesP d d.Faces.length)) (((0:Nat):Int),rowsP (fun k=>nearP d k d.Faces.length) [] 0 d.Faces.length)=some (rowsP (fun k=>nearP d k d.Faces.length) [] d.Faces.length d.Faces.length):=by
  refine loopO_for (fun t:Nat=>((t:Int),rowsP (fun k=>nearP d k d.Faces.length) [] t d.Faces.length)) d.Faces.length (fun t ht=>?_) ?_
  ·unfold impl_neighbours_l9
   simp only
   rw [hl,if_pos (by omega),inner t ht _ (rowsP_len (Nat.le_of_lt ht)) (rowsP_same ht),Option.bind_some,w64_succ (by omega)]
   rw [←rowsP_set ht]
  ·unfold impl_neighbours_l9
   simp only
   rw [hl,if_neg (by omega)]
 rw [e2,rowsP_all];rfl
def eg (d:S_Drawing) (a b:S_Point):Bool:=decide (a.X=b.X∧(a.X=0∨a.X=d.Width)∨a.Y=b.Y∧(a.Y=0∨a.Y=d.Height))
theorem edge_if (d:S_Drawing) (a b:S_Point):(if a.X=b.X then (if a.X=0 then some true else if a.X=d.Width then some true else if a.Y=b.Y then (if a.Y=0 then some true else some (a.Y==d.Height)) else some false)
 else if a.Y=b.Y then (if a.Y=0 then some true else some (a.Y==d.Height)) else some false)=some (eg d a b):=by
 unfold eg
 by_cases c1:a.X=b.X<;>by_cases c2:a.X=0<;>by_cases c3:a.X=d.Width<;>by_cases c4:a.Y=b.Y<;>by_cases c5:a.Y=0<;>by_cases c6:a.Y=d.Height<;>simp_all
noncomputable def polyP (d:S_Drawing) (k:Nat):List S_Point:=match impl_ringPolygon d.Points (rg d k) with | some r=>r.1 | none=>[]
noncomputable def bdP (d:S_Drawing) (k:Nat):Bool:=(er (polyP d k)).any fun p=>eg d p.1 p.2
def bD (d:S_Drawing):Prop:=bR d∧d.Points.length≤1048576
theorem poly_ev {d:S_Drawing} (hb:bD d) (k:Nat):∃r,impl_ringPolygon d.Points (rg d k)=some r∧r.1=polyP d k∧(polyP d k).length≤1048576:=by
 obtain ⟨r,r1,r2⟩:=ring_ev d.Points (rg d k) hb.2 (bR_rg hb.1 k)
 have:r.1=polyP d k:=by unfold polyP;rw [r1]
 exact ⟨r,r1,this,by rw [←this];exact r2⟩
noncomputable def mapP (d:S_Drawing):S_sides:=⟨(List.range d.Faces.length).map fun k=>nearP d k d.Faces.length,(List.range d.Faces.length).map fun k=>bdP d k⟩
theorem sides_impl {d:S_Drawing} (hb:bD d):impl_sidesOf d=some (mapP d):=by
 have hF:=hb.1.1
 unfold impl_sidesOf
 rw [near_impl hb.1,Option.bind_some]
 unfold mkl
 rw [if_pos ⟨by omega,by omega⟩,Option.bind_some]
 have inner:∀(t:Nat),t<d.Faces.length→∀(out:List Bool),out.length=d.Faces.length→out.set t false=out→loopO (impl_sidesOf_l7 d (t:Int) (polyP d t)) (0,out)=some (out.set t (bdP d t)):=by
  intro t ht out ho hz
  obtain ⟨_,_,_,r3⟩:=poly_ev hb t
  have h0:(((0:Nat):Int),out.set t (((er (polyP d t)).take 0).any fun p=>eg d p.1 p.2))=((0:Int),out):=by
   rw [List.take_zero,List.any_nil,hz];rfl
  rw [←h0]
  refine loopO_for (fun i:Nat=>((i:Int),out.set t (((er (polyP d t)).take i).any fun p=>eg d p.1 p.2))) (polyP d t).length (fun i hi=>?_) ?_
  ·obtain ⟨e1,e2,e3⟩:=er_rd r3 hi
   unfold impl_sidesOf_l7 impl_sidesOf_k12
   simp only
   rw [if_pos (by omega),e1,Option.bind_some,e2,Option.bind_some,e3,Option.bind_some,edge_if,Option.bind_some,w64_succ (by omega),any_take (by rw [er_len];exact hi)]
   cases eg d ((er (polyP d t))[i]'(by rw [er_len];exact hi)).1 ((er (polyP d t))[i]'(by rw [er_len];exact hi)).2 with
   | false=>simp
   | true=>
    rw [if_pos rfl,rd_set (by omega),Option.bind_some,show ((t:Int)).toNat=t from rfl,List.set_set,Bool.or_true]
  ·unfold impl_sidesOf_l7
   simp only
   rw [if_neg (by omega),List.take_of_length_le (by rw [er_len];exact Nat.le_refl _)]
   rfl
 have h0:(((0:Nat):Int),rowsP (fun k=>bdP d k) false 0 d.Faces.length)=((0:Int),List.replicate (d.Faces.length:Int).toNat false):=by
  unfold rowsP
  simp
 rw [←h0]
 have e2:loopO (impl_sidesOf_l3 d) (((0:Nat):Int),rowsP (fun k=>bdP d k) false 0 d.Faces.length)=some (rowsP (fun k=>bdP d k) false d.Faces.length d.Faces.length):=by
  refine loopO_for (fun t:Nat=>((t:Int),rowsP (fun k=>bdP d k) false t d.Faces.length)) d.Faces.length (fun t ht=>?_) ?_
  ·obtain ⟨r,r1,r2,r3⟩:=poly_ev hb t
   have hp:impl_facePolygon d (t:Int)=some (polyP d t):=by
    unfold impl_facePolygon
    rw [rd_lt ht,Option.bind_some,←rg_lt ht,r1,Option.bind_some,r2]
   unfold impl_sidesOf_l3
   simp only
   rw [if_pos (by omega),hp,Option.bind_some,inner t ht _ (rowsP_len (Nat.le_of_lt ht)) (rowsP_same ht),Option.bind_some,w64_succ (by omega)]
   rw [←rowsP_set ht]
  ·unfold impl_sidesOf_l3
   simp only
   rw [if_neg (by omega)]
 rw [e2,rowsP_all]
 rfl
structure Mp (M:S_sides):Prop where
 len:M.near.length≤1048576
 rows:∀r∈M.near,r.length≤1048576
 bd:M.border.length=M.near.length
theorem mapP_ok {d:S_Drawing} (hb:bD d):Mp (mapP d) where
 len:=by unfold mapP;rw [List.length_map,List.length_range];exact hb.1.1
 rows:=by
  intro r hr
  obtain ⟨k,_,rfl⟩:=List.mem_map.1 hr
  exact Nat.le_trans (nearP_len _ _ _) hb.1.1
 bd:=by unfold mapP;rw [List.length_map,List.length_map]
section
variable {M:S_sides} (hM:Mp M) {F:List Int} (hF:F.length≤1048576)
def nr (M:S_sides) (k:Nat):List Int:=M.near.getD k []
def bo (M:S_sides) (k:Nat):Bool:=M.border.getD k false
def hdP (M:S_sides) (F:List Int) (k:Nat):Bool:=decide (F.length=0)||(nr M k).any fun x=>decide (x∈F)
def trP (M:S_sides) (F:List Int) (k:Nat):Bool:=!bo M k&&(nr M k).all fun x=>decide (x∈F)
def kdP (M:S_sides) (F:List Int) (k:Nat):Int:=if hdP M F k=true then (if trP M F k=true then 2 else 0) else 1
def nxP (M:S_sides) (F:List Int) (n:Nat):List Int:=((List.range n).filter fun k:Nat=>!decide ((k:Int)∈F)&&kdP M F k==0).map fun k:Nat=>(k:Int)
include hM hF
omit hF in
theorem nr_rd {k:Nat} (hk:k<M.near.length):rd M.near (k:Int)=some (nr M k)∧(nr M k).length≤1048576∧rd M.border (k:Int)=some (bo M k):=by
 have e:nr M k=M.near[k]:=by unfold nr;rw [List.getD_eq_getElem?_getD,List.getElem?_eq_getElem hk];rfl
 have hb:k<M.border.length:=by rw [hM.bd];exact hk
 refine ⟨by rw [e];exact rd_lt hk,by rw [e];exact hM.rows _ (List.getElem_mem hk),?_⟩
 rw [rd_lt hb]
 unfold bo
 rw [List.getD_eq_getElem?_getD,List.getElem?_eq_getElem hb];rfl
omit hM hF in
theorem hasF1 {f:Int→Option Bool} {V:Int→Bool} (L:List Int) (hL:L.length≤1048576) (hf:∀p,f p=some (V p)):slices_ContainsFunc_int64_int64 L f=some (L.any V):=by
 unfold slices_ContainsFunc_int64_int64 slices_IndexFunc_int64_int64
 rcases scanFind (f:=slices_IndexFunc_int64_int64_l2 f L) L V (fun k=>(k:Int)) (by omega) (fun i hi=>by
  unfold slices_IndexFunc_int64_int64_l2
  rw [if_pos (by omega),rd_lt hi,Option.bind_some,hf]
  rfl) (by unfold slices_IndexFunc_int64_int64_l2;rw [if_neg (by omega)]) with ⟨h1,h2⟩ | ⟨i,hi,h1,_,h2⟩
 ·rw [h2,List.any_eq_false.2 fun x hx=>by simpa using h1 x hx]
  rfl
 ·rw [h2,List.any_eq_true.2 ⟨_,List.getElem_mem hi,h1⟩]
  show some (decide ((i:Int)≥0))=_
  rw [decide_eq_true (by omega)]
theorem held_impl {k:Nat} (hk:k<M.near.length):impl_sides_held M F (k:Int)=some (hdP M F k):=by
 obtain ⟨n1,n2,n3⟩:=nr_rd hM hk
 unfold impl_sides_held hdP
 by_cases c:F.length=0
 ·rw [if_pos (by omega),decide_eq_true c];rfl
 ·rw [if_neg (by omega),decide_eq_false c,Bool.false_or,n1,Option.bind_some,hasF1 (V:=fun x=>decide (x∈F)) _ n2 (fun x=>by
   unfold impl_sides__held_c1
   rw [has_impl _ _ hF];rfl)]
  rfl
theorem trap_impl {k:Nat} (hk:k<M.near.length):impl_sides_trapped M F (k:Int)=some (trP M F k):=by
 obtain ⟨n1,n2,n3⟩:=nr_rd hM hk
 unfold impl_sides_trapped trP
 rw [n3,Option.bind_some]
 cases bo M k with
 | true=>rfl
 | false=>
  rw [if_neg (by decide),Bool.not_false,Bool.true_and,n1,Option.bind_some,hasF1 (V:=fun x=>!decide (x∈F)) _ n2 (fun x=>by
   unfold impl_sides__trapped_c1
   rw [has_impl _ _ hF];rfl)]
  simp only [Option.bind_some]
  congr 1
  rw [List.all_eq_not_any_not]
theorem fault_impl {k:Nat} (hk:k<M.near.length):impl_sides_fault M F (k:Int)=some (kdP M F k):=by
 unfold impl_sides_fault kdP
 rw [held_impl hM hF hk,Option.bind_some]
 cases hdP M F k with
 | false=>rfl
 | true=>rw [if_pos rfl,if_pos rfl,trap_impl hM hF hk,Option.bind_some];cases trP M F k<;>rfl
omit hM hF in
theorem nxP_succ (n:Nat):nxP M F (n+1)=if (!decide ((n:Int)∈F)&&kdP M F n==0)=true then nxP M F n++[(n:Int)] else nxP M F n:=by
 unfold nxP
 rw [List.range_succ,List.filter_append,List.map_append]
 by_cases c:(!decide ((n:Int)∈F)&&kdP M F n==0)=true
 ·rw [if_pos c]
  simp only [List.filter_cons,List.filter_nil,c,if_true,List.map_cons,List.map_nil]
 ·have c':=Bool.eq_false_iff.2 c
  rw [if_neg c]
  simp only [List.filter_cons,List.filter_nil,c',Bool.false_eq_true,if_false,List.map_nil,List.append_nil]
omit hM hF in
theorem nxP_len (n:Nat):(nxP M F n).length≤n:=by
 unfold nxP
 rw [List.length_map]
 exact Nat.le_trans (List.length_filter_le _ (List.range n)) (Nat.le_of_eq List.length_range)
theorem next_impl:impl_sides_next M F=some (nxP M F M.near.length):=by
 have hl:=hM.len
 unfold impl_sides_next
 have e:loopO (impl_sides_next_l3 F M) (0,[])=some (nxP M F M.near.length):=by
  refine loopO_for (fun k:Nat=>((k:Int),nxP M F k)) M.near.length (fun k hk=>?_) ?_
  ·have h2:=nxP_len (M:=M) (F:=F) k
   unfold impl_sides_next_l3 impl_sides_next_k7
   simp only
   rw [if_pos (by omega),has_impl _ _ hF,Option.bind_some,fault_impl hM hF hk,nxP_succ,w64_succ (by omega)]
   cases decide ((k:Int)∈F) with
   | true=>simp
   | false=>
    simp only [Bool.false_eq_true,if_false,Option.bind_some,Bool.not_false,Bool.true_and]
    cases (kdP M F k==0) with
    | true=>rw [if_pos rfl,if_pos rfl,apdn (by simp only [List.length_singleton];omega)];rfl
    | false=>rfl
  ·unfold impl_sides_next_l3
   simp only
   rw [if_neg (by omega)]
 rw [e]
 rfl
end
abbrev FB:=(S_assemblySearch×List Int)→Option (Bool×S_assemblySearch)
theorem fs_run (x:S_assemblySearch) (F:List Int):Fs (fun self:FB=>impl_assemblySearch_run_F self x F):=by
 unfold impl_assemblySearch_run_F
 have k7:∀a b,Fs (fun self:FB=>impl_assemblySearch_run_k7 self a b):=by
  intros
  unfold impl_assemblySearch_run_k7
  exact Fs.const _
 refine Fs.ite (Fs.const _) (Fs.ite (Fs.ite (k7 _ _) (k7 _ _)) (Fs.bind (Fs.const _) fun l=>Fs.bind (Fs.loop (fun s=>?_) _) fun o=>Fs.const _))
 obtain ⟨a1,a2,a3,a4,a5,a6,a7⟩:=s
 unfold impl_assemblySearch_run_l10
 exact Fs.ite (Fs.bind (Fs.const _) fun _=>Fs.bind (Fs.const _) fun _=>Fs.bind (Fs.const _) fun _=>Fs.bind (Fs.app _) fun _=>Fs.const _) (Fs.const _)
noncomputable abbrev SR:FB:=fun s=>impl_assemblySearch_run s.1 s.2
theorem run_eq (x:S_assemblySearch) (F:List Int):impl_assemblySearch_run x F=impl_assemblySearch_run_F SR x F:=by
 show fixO _ _=_
 rw [fixO_eq]
 ·rfl
 ·rintro ⟨x,F⟩
  exact fs_run x F
theorem bD_of {d:S_Drawing} (hb:bd_S_Drawing d):bD d:=by
 obtain ⟨_,_,⟨hp,_⟩,⟨hf,hF⟩⟩:=hb
 exact ⟨⟨hf,fun f h=>(hF f h).2.1⟩,hp⟩
def gd (M:S_sides) (F:List Int):Prop:=∀t (h:t<F.length),F[t]∈nxP M (F.take t) M.near.length
theorem nxP_mem {M:S_sides} {F:List Int} {n:Nat} {x:Int}:x∈nxP M F n↔∃k:Nat,k<n∧x=(k:Int)∧¬x∈F∧kdP M F k=0:=by
 unfold nxP
 simp only [List.mem_map,List.mem_filter,List.mem_range,Bool.and_eq_true,Bool.not_eq_true',decide_eq_false_iff_not,beq_iff_eq]
 constructor
 ·rintro ⟨k,⟨h1,h2,h3⟩,rfl⟩
  exact ⟨k,h1,rfl,h2,h3⟩
 ·rintro ⟨k,h1,rfl,h2,h3⟩
  exact ⟨k,⟨h1,h2,h3⟩,rfl⟩
theorem gd_nil {M:S_sides}:gd M []:=fun t h=>absurd h (by simp)
theorem gd_snoc {M:S_sides} {F:List Int} {x:Int} (hF:gd M F) (hx:x∈nxP M F M.near.length):gd M (F++[x]):=by
 intro t h
 by_cases c:t<F.length
 ·rw [List.getElem_append_left c,List.take_append_of_le_length (by omega)]
  exact hF t c
 ·have:t=F.length:=by
   rw [List.length_append,List.length_singleton] at h
   omega
  subst this
  rw [List.getElem_append_right (by omega),List.take_left']
  ·simpa using hx
  ·rfl
theorem gd_next {M:S_sides} {F G:List Int} {x:Int} (h:gd M (F++x::G)):x∈nxP M F M.near.length:=by
 have:=h F.length (by rw [List.length_append,List.length_cons];omega)
 rw [List.getElem_append_right (by omega),List.take_left' rfl] at this
 simpa using this
theorem step10 {M:S_sides} {F N:List Int} {i:Nat} (hi:i<N.length) (hN:N.length≤1048576) (hF:F.length≤1048576) {L c:Int} {b:List Int} {one r:Bool} {L2 c2:Int} {b2:List Int}
 (p:impl_assemblySearch_run ⟨M,L,c,b,one⟩ (F++[N[i]])=some (r,⟨M,L2,c2,b2,one⟩)):
 impl_assemblySearch_run_l10 SR F N ((i:Int),M.near,M.border,L,c,b,one)=if r=true then some (.inr (.inr (true,⟨M,L2,c2,b2,one⟩))) else some (.inl (((i+1:Nat):Int),M.near,M.border,L2,c2,b2,one)):=by
 unfold impl_assemblySearch_run_l10
 simp only
 rw [if_pos (by omega),rd_lt hi,Option.bind_some,apdn (by simp only [List.length_nil];omega),Option.bind_some,List.nil_append,apdn (by simp only [List.length_singleton];omega),Option.bind_some]
 have p':SR (⟨⟨M.near,M.border⟩,L,c,b,one⟩,F++[N[i]])=some (r,⟨M,L2,c2,b2,one⟩):=p
 rw [p',Option.bind_some,w64_succ (by omega)]
theorem run_low {M:S_sides} {F:List Int} {c:Int} {b:List Int} {one:Bool}:impl_assemblySearch_run ⟨M,0,c,b,one⟩ F=some (true,⟨M,-1,c,b,one⟩):=by
 rw [run_eq]
 unfold impl_assemblySearch_run_F
 simp only
 rw [w64_id (n:=0 - 1) (by omega) (by omega),if_pos (by omega)]
 rfl
theorem run_leaf {M:S_sides} {F:List Int} {L c:Int} {b:List Int} {one:Bool} (h:1≤L) (h2:L≤20000) (c0:0≤c) (c1:c≤20000) (hF:(F.length:Int)=M.near.length):
 impl_assemblySearch_run ⟨M,L,c,b,one⟩ F=some (one,⟨M,L - 1,c+1,if c=0 then F else b,one⟩):=by
 rw [run_eq]
 unfold impl_assemblySearch_run_F impl_assemblySearch_run_k7
 simp only
 rw [w64_id (n:=L - 1) (by omega) (by omega),if_neg (by omega),if_pos hF,w64_id (n:=c+1) (by omega) (by omega)]
 split<;>rfl
theorem run_node_l {M:S_sides} (hM:Mp M) {F:List Int} {L c:Int} {b:List Int} {one:Bool} (h:1≤L) (h2:L≤20000) (hF:(F.length:Int)≠M.near.length) (hl:F.length≤1048576) {L' c':Int} {b':List Int}
 (e:loopO (impl_assemblySearch_run_l10 SR F (nxP M F M.near.length)) (((0:Nat):Int),M.near,M.border,L - 1,c,b,one)=some (.inl (M.near,M.border,L',c',b',one))):
 impl_assemblySearch_run ⟨M,L,c,b,one⟩ F=some (false,⟨M,L',c',b',one⟩):=by
 rw [run_eq]
 unfold impl_assemblySearch_run_F
 simp only
 rw [w64_id (n:=L - 1) (by omega) (by omega),if_neg (by omega),if_neg hF,next_impl hM hl,Option.bind_some]
 have e:loopO (impl_assemblySearch_run_l10 SR F (nxP M F M.near.length)) (0,M.near,M.border,L - 1,c,b,one)=_:=e
 rw [e]
 rfl
theorem run_node_r {M:S_sides} (hM:Mp M) {F:List Int} {L c:Int} {b:List Int} {one:Bool} (h:1≤L) (h2:L≤20000) (hF:(F.length:Int)≠M.near.length) (hl:F.length≤1048576) {x:Bool×S_assemblySearch}
 (e:loopO (impl_assemblySearch_run_l10 SR F (nxP M F M.near.length)) (((0:Nat):Int),M.near,M.border,L - 1,c,b,one)=some (.inr x)):
 impl_assemblySearch_run ⟨M,L,c,b,one⟩ F=some x:=by
 rw [run_eq]
 unfold impl_assemblySearch_run_F
 simp only
 rw [w64_id (n:=L - 1) (by omega) (by omega),if_neg (by omega),if_neg hF,next_impl hM hl,Option.bind_some]
 have e:loopO (impl_assemblySearch_run_l10 SR F (nxP M F M.near.length)) (0,M.near,M.border,L - 1,c,b,one)=_:=e
 rw [e]
 rfl
def RA (M:S_sides) (m:Nat):Prop:=∀(F bi:List Int) (c L:Int),L.toNat≤m→0≤L→(F.length:Int)+L≤20000→0≤c→c+L≤20000→
 ∃r c' L' bi',impl_assemblySearch_run ⟨M,L,c,bi,false⟩ F=some (r,⟨M,L',c',bi',false⟩)∧c≤c'∧c'+L'≤20000∧L'<L∧-1≤L'∧(r=false→0≤L')∧(r=true→L'<0)
theorem loop_any {M:S_sides} {m:Nat} (ih:RA M m) (F N:List Int) (hN:N.length≤1048576):∀(k i:Nat) (bi:List Int) (c L:Int),i+k=N.length→L.toNat≤m→0≤L→(F.length:Int)+1+L≤20000→0≤c→c+L≤20000→
 ∃r c' L' bi',loopO (impl_assemblySearch_run_l10 SR F N) ((i:Int),M.near,M.border,L,c,bi,false)=some (if r=true then .inr (true,⟨M,L',c',bi',false⟩) else .inl (M.near,M.border,L',c',bi',false))∧c≤c'∧c'+L'≤20000∧L'≤L∧-1≤L'∧(r=false→0≤L')∧(r=true→L'<0):=by
 intro k
 induction k with
 | zero=>
  intro i bi c L hi g1 g2 g3 g4 g5
  refine ⟨false,c,L,bi,loopO_done ?_,by omega,g5,by omega,by omega,fun _=>g2,fun h=>by cases h⟩
  unfold impl_assemblySearch_run_l10
  simp only
  rw [if_neg (by omega)];rfl
 | succ k ihk=>
  intro i bi c L hi g1 g2 g3 g4 g5
  have hi':i<N.length:=by omega
  obtain ⟨r,c2,L2,bi2,p1,p2,p3,p4,p5,p6,p7⟩:=ih (F++[N[i]]) bi c L g1 g2 (by rw [List.length_append,List.length_singleton];omega) g4 g5
  have s:=step10 hi' hN (by omega) p1
  cases r with
  | true=>
   rw [if_pos rfl] at s
   exact ⟨true,c2,L2,bi2,loopO_done s,p2,p3,by omega,p5,(fun h=>by cases h),p7⟩
  | false=>
   rw [if_neg (by decide)] at s
   have p6:=p6 rfl
   obtain ⟨r,c',L',bi',q1,q2,q3,q4,q5,q6,q7⟩:=ihk (i+1) bi2 c2 L2 (by omega) (by omega) p6 (by omega) (by omega) p3
   exact ⟨r,c',L',bi',by rw [loopO_next s];exact q1,by omega,q3,by omega,q5,q6,q7⟩
theorem run_any {M:S_sides} (hM:Mp M):∀m,RA M m:=by
 intro m
 induction m with
 | zero=>
  intro F bi c L h0 h1 h2 h3 h4
  obtain rfl:L=0:=by omega
  exact ⟨true,c,-1,bi,run_low,by omega,by omega,by omega,by omega,(fun h=>by cases h),fun _=>by omega⟩
 | succ m ih=>
  intro F bi c L h0 h1 h2 h3 h4
  by_cases cL:L=0
  ·subst cL
   exact ⟨true,c,-1,bi,run_low,by omega,by omega,by omega,by omega,(fun h=>by cases h),fun _=>by omega⟩
  by_cases cF:(F.length:Int)=M.near.length
  ·exact ⟨false,c+1,L - 1,_,run_leaf (by omega) (by omega) h3 (by omega) cF,by omega,by omega,by omega,by omega,(fun _=>by omega),fun h=>by cases h⟩
  have hN:=nxP_len (M:=M) (F:=F) M.near.length
  have hNl:=hM.len
  obtain ⟨r,c',L',bi',q1,q2,q3,q4,q5,q6,q7⟩:=loop_any ih F (nxP M F M.near.length) (by omega) (nxP M F M.near.length).length 0 bi c (L - 1) (by omega) (by omega) (by omega) (by omega) h3 (by omega)
  cases r with
  | true=>exact ⟨true,c',L',bi',run_node_r hM (by omega) (by omega) cF (by omega) q1,q2,q3,by omega,q5,q6,q7⟩
  | false=>exact ⟨false,c',L',bi',run_node_l hM (by omega) (by omega) cF (by omega) q1,q2,q3,by omega,q5,q6,q7⟩
def RB (M:S_sides) (m:Nat):Prop:=∀(F:List Int) (L:Int),L.toNat≤m→0≤L→(F.length:Int)+L≤20000→L≤20000→gd M F→
 ∃r1 r0 s1 s0,impl_assemblySearch_run ⟨M,L,0,[],true⟩ F=some (r1,s1)∧impl_assemblySearch_run ⟨M,L,0,[],false⟩ F=some (r0,s0)∧
  ((r1=true∧r0=true∧s1=⟨M,-1,0,[],true⟩∧s0=⟨M,-1,0,[],false⟩)∨
   (∃L',r1=false∧r0=false∧s1=⟨M,L',0,[],true⟩∧s0=⟨M,L',0,[],false⟩∧0≤L'∧L'<L∧∀G,gd M (F++G)→(F++G).length≠M.near.length)∨
   (∃G L' L'' c b,r1=true∧s1=⟨M,L',1,G,true⟩∧0≤L'∧gd M G∧G.length=M.near.length∧s0=⟨M,L'',c,b,false⟩∧1≤c∧c+L''≤20000∧L''<L∧-1≤L''∧(r0=false→0≤L'')∧(r0=true→L''<0)))
theorem run_two {M:S_sides} (hM:Mp M):∀m,RB M m:=by
 intro m
 induction m with
 | zero=>
  intro F L h0 h1 h2 h3 hg
  obtain rfl:L=0:=by omega
  exact ⟨_,_,_,_,run_low,run_low,.inl ⟨rfl,rfl,rfl,rfl⟩⟩
 | succ m ih=>
  intro F L h0 h1 h2 h3 hg
  by_cases cL:L=0
  ·subst cL
   exact ⟨_,_,_,_,run_low,run_low,.inl ⟨rfl,rfl,rfl,rfl⟩⟩
  by_cases cF:(F.length:Int)=M.near.length
  ·refine ⟨_,_,_,_,run_leaf (by omega) (by omega) (by omega) (by omega) cF,run_leaf (by omega) (by omega) (by omega) (by omega) cF,.inr (.inr ⟨F,L - 1,L - 1,1,F,rfl,rfl,by omega,hg,by omega,rfl,by omega,by omega,by omega,by omega,(fun _=>by omega),fun h=>by cases h⟩)⟩
  have hN:=nxP_len (M:=M) (F:=F) M.near.length
  have hNl:=hM.len
  have hmem:∀x∈nxP M F M.near.length,gd M (F++[x]):=fun x hx=>gd_snoc hg hx
  have hfin:(∀x∈nxP M F M.near.length,∀G,gd M (F++[x]++G)→(F++[x]++G).length≠M.near.length)→∀G,gd M (F++G)→(F++G).length≠M.near.length:=by
   intro hx G hG
   cases G with
   | nil=>rw [List.append_nil];omega
   | cons x G=>
    have:=hx x (gd_next hG) G
    rw [List.append_assoc,List.singleton_append] at this
    exact this hG
  have lp:∀(k i:Nat) (L1:Int),i+k=(nxP M F M.near.length).length→L1.toNat≤m→0≤L1→(F.length:Int)+1+L1≤20000→L1≤20000→
   (∀j (h:j< (nxP M F M.near.length).length),j<i→∀G,gd M (F++[(nxP M F M.near.length)[j]]++G)→(F++[(nxP M F M.near.length)[j]]++G).length≠M.near.length)→
   (loopO (impl_assemblySearch_run_l10 SR F (nxP M F M.near.length)) ((i:Int),M.near,M.border,L1,0,[],true)=some (.inr (true,⟨M,-1,0,[],true⟩))∧loopO (impl_assemblySearch_run_l10 SR F (nxP M F M.near.length)) ((i:Int),M.near,M.border,L1,0,[],false)=some (.inr (true,⟨M,-1,0,[],false⟩)))∨
   (∃L',loopO (impl_assemblySearch_run_l10 SR F (nxP M F M.near.length)) ((i:Int),M.near,M.border,L1,0,[],true)=some (.inl (M.near,M.border,L',0,[],true))∧loopO (impl_assemblySearch_run_l10 SR F (nxP M F M.near.length)) ((i:Int),M.near,M.border,L1,0,[],false)=some (.inl (M.near,M.border,L',0,[],false))∧0≤L'∧L'≤L1∧
     ∀x∈nxP M F M.near.length,∀G,gd M (F++[x]++G)→(F++[x]++G).length≠M.near.length)∨
   (∃G L' L'' c b r,loopO (impl_assemblySearch_run_l10 SR F (nxP M F M.near.length)) ((i:Int),M.near,M.border,L1,0,[],true)=some (.inr (true,⟨M,L',1,G,true⟩))∧loopO (impl_assemblySearch_run_l10 SR F (nxP M F M.near.length)) ((i:Int),M.near,M.border,L1,0,[],false)=some (if r=true then .inr (true,⟨M,L'',c,b,false⟩) else .inl (M.near,M.border,L'',c,b,false))∧
     0≤L'∧gd M G∧G.length=M.near.length∧1≤c∧c+L''≤20000∧L''≤L1∧-1≤L''∧(r=false→0≤L'')∧(r=true→L''<0)):=by
   intro k
   induction k with
   | zero=>
    intro i L1 hi g1 g2 g3 g4 g5
    refine .inr (.inl ⟨L1,loopO_done ?_,loopO_done ?_,g2,by omega,fun x hx=>?_⟩)
    ·unfold impl_assemblySearch_run_l10
     simp only
     rw [if_neg (by omega)]
    ·unfold impl_assemblySearch_run_l10
     simp only
     rw [if_neg (by omega)]
    ·obtain ⟨j,hj,rfl⟩:=List.getElem_of_mem hx
     exact g5 j hj (by omega)
   | succ k ihk=>
    intro i L1 hi g1 g2 g3 g4 g5
    have hi':i< (nxP M F M.near.length).length:=by omega
    obtain ⟨r1,r0,s1,s0,p1,p0,hc⟩:=ih (F++[(nxP M F M.near.length)[i]]) L1 g1 g2 (by rw [List.length_append,List.length_singleton];omega) g4 (hmem _ (List.getElem_mem hi'))
    rcases hc with ⟨rfl,rfl,rfl,rfl⟩ | ⟨L',rfl,rfl,rfl,rfl,k1,k2,k3⟩ | ⟨G,L',L'',c,b,rfl,rfl,k1,k2,k3,rfl,k4,k5,k6,k7,k8,k9⟩
    ·exact .inl ⟨loopO_done (step10 hi' (by omega) (by omega) p1),loopO_done (step10 hi' (by omega) (by omega) p0)⟩
    ·have t1:=step10 hi' (by omega) (by omega) p1
     have t0:=step10 hi' (by omega) (by omega) p0
     rw [if_neg (by decide)] at t1 t0
     rw [loopO_next t1,loopO_next t0]
     rcases ihk (i+1) L' (by omega) (by omega) k1 (by omega) (by omega) (fun j hj hji=>by
      by_cases c:j=i
      ·subst c;exact k3
      ·exact g5 j hj (by omega)) with h | ⟨L2,h1,h2,h3,h4,h5⟩ | ⟨G,L2,L3,c,b,r,h1,h2,h3,h4,h5,h6,h7,h8,h9⟩
     ·exact .inl h
     ·exact .inr (.inl ⟨L2,h1,h2,h3,by omega,h5⟩)
     ·exact .inr (.inr ⟨G,L2,L3,c,b,r,h1,h2,h3,h4,h5,h6,h7,by omega,h9⟩)
    ·have t1:=step10 hi' (by omega) (by omega) p1
     have t0:=step10 hi' (by omega) (by omega) p0
     rw [if_pos rfl] at t1
     cases r0 with
     | true=>
      rw [if_pos rfl] at t0
      exact .inr (.inr ⟨G,L',L'',c,b,true,loopO_done t1,loopO_done t0,k1,k2,k3,k4,k5,by omega,k7,k8,k9⟩)
     | false=>
      rw [if_neg (by decide)] at t0
      have k8:=k8 rfl
      obtain ⟨r,c',L3,b',q1,q2,q3,q4,q5,q6,q7⟩:=loop_any (run_any hM m) F (nxP M F M.near.length) (by omega) k (i+1) b c L'' (by omega) (by omega) k8 (by omega) (by omega) k5
      exact .inr (.inr ⟨G,L',L3,c',b',r,loopO_done t1,by rw [loopO_next t0];exact q1,k1,k2,k3,by omega,q3,by omega,q5,q6,q7⟩)
  rcases lp (nxP M F M.near.length).length 0 (L - 1) (by omega) (by omega) (by omega) (by omega) (by omega) (fun j _ h=>absurd h (by omega)) with ⟨e1,e0⟩ | ⟨L',e1,e0,k1,k2,k3⟩ | ⟨G,L',L'',c,b,r,e1,e0,k1,k2,k3,k4,k5,k6,k7,k8,k9⟩
  ·exact ⟨_,_,_,_,run_node_r hM (by omega) (by omega) cF (by omega) e1,run_node_r hM (by omega) (by omega) cF (by omega) e0,.inl ⟨rfl,rfl,rfl,rfl⟩⟩
  ·exact ⟨_,_,_,_,run_node_l hM (by omega) (by omega) cF (by omega) e1,run_node_l hM (by omega) (by omega) cF (by omega) e0,.inr (.inl ⟨L',rfl,rfl,rfl,rfl,k1,by omega,hfin k3⟩)⟩
  ·cases r with
   | true=>exact ⟨_,_,_,_,run_node_r hM (by omega) (by omega) cF (by omega) e1,run_node_r hM (by omega) (by omega) cF (by omega) e0,.inr (.inr ⟨G,L',L'',c,b,rfl,rfl,k1,k2,k3,rfl,k4,k5,by omega,k7,k8,k9⟩)⟩
   | false=>exact ⟨_,_,_,_,run_node_r hM (by omega) (by omega) cF (by omega) e1,run_node_l hM (by omega) (by omega) cF (by omega) e0,.inr (.inr ⟨G,L',L'',c,b,rfl,rfl,k1,k2,k3,rfl,k4,k5,by omega,k7,k8,k9⟩)⟩
theorem slc0 {α:Type} {l:List α} {t:Nat} (h:t≤l.length):slc l 0 (t:Int)=some (l.take t):=by
 unfold slc
 rw [if_pos ⟨by omega,by omega,by omega⟩]
 rfl
theorem gd_not {M:S_sides} {F:List Int} (h:gd M F) {t:Nat} (ht:t<F.length):∃k:Nat,k<M.near.length∧F[t]=(k:Int)∧¬F[t]∈F.take t∧kdP M (F.take t) k=0:=nxP_mem.1 (h t ht)
theorem gd_nodup {M:S_sides} {F:List Int} (h:gd M F):F.Nodup:=by
 rw [List.Nodup,List.pairwise_iff_getElem]
 intro i j hi hj hij e
 obtain ⟨k,_,_,h2,_⟩:=gd_not h hj
 exact h2 (e ▸ List.mem_take_iff_getElem.2 ⟨i,by omega,rfl⟩)
theorem small (n:Nat):∀l:List Int,l.Nodup→(∀x∈l,0≤x∧x<n)→l.length≤n:=by
 induction n with
 | zero=>
  intro l _ h
  cases l with
  | nil=>simp
  | cons x l=>have:=h x (by simp);omega
 | succ n ih=>
  intro l hl h
  have:=ih (l.erase (n:Int)) (hl.erase _) (fun x hx=>by
   obtain ⟨h1,h2⟩:=(hl.mem_erase_iff).1 hx
   have:=h x h2
   omega)
  rw [List.length_erase] at this
  split at this<;>omega
theorem all_in {M:S_sides} {F:List Int} (h:gd M F) (hl:F.length=M.near.length) {k:Nat} (hk:k<M.near.length):(k:Int)∈F:=by
 by_cases c:(k:Int)∈F
 ·exact c
 ·have:=small M.near.length ((k:Int)::F) (List.nodup_cons.2 ⟨c,gd_nodup h⟩) (fun x hx=>by
   rcases List.mem_cons.1 hx with rfl | hx
   ·omega
   ·obtain ⟨t,ht,rfl⟩:=List.getElem_of_mem hx
    obtain ⟨k,k1,k2,_⟩:=gd_not h ht
    omega)
  rw [List.length_cons] at this
  omega
theorem mapP_len (d:S_Drawing):(mapP d).near.length=d.Faces.length:=by
 unfold mapP
 simp
section
variable {d:S_Drawing} (hv:impl_ValidDrawing d=some true) (hb:bD d)
include hv hb
theorem search_val {one r:Bool} {s:S_assemblySearch} (e:impl_assemblySearch_run ⟨mapP d,2000,0,[],one⟩ []=some (r,s)):impl_searchAssemblies d 2000 one=some (if s.left<0 then (none,5) else (some s,0)):=by
 unfold impl_searchAssemblies
 rw [hv,Option.bind_some,if_pos rfl,within_eq,Option.bind_some,decide_eq_true (show 1≤(2000:Int)∧(2000:Int)≤20000 by omega),if_pos rfl,sides_impl hb,Option.bind_some,e,Option.bind_some]
 split<;>rfl
end
theorem r8has (l:List Int) (n:Int) (hl:l.length≤1048576):laws_r8Has l n=some (decide (n∈l)):=by
 unfold laws_r8Has
 rcases scanAll (f:=laws_r8Has_l2 l n) l (fun x=>!decide (x=n)) (fun _=>true) (by omega) (fun i hi=>by
  unfold laws_r8Has_l2
  rw [if_pos (by omega),rd_lt hi,Option.bind_some]
  by_cases c:l[i]=n<;>simp [c]) (by unfold laws_r8Has_l2;rw [if_neg (by omega)]) with ⟨h1,h2⟩ | ⟨h1,i,hi,h2⟩
 ·rw [h2]
  have:¬n∈l:=fun h=>by
   have:=List.all_eq_true.1 h1 n h
   simp at this
  simp [this]
 ·rw [h2]
  have:n∈l:=by
   rw [List.all_eq_false] at h1
   obtain ⟨x,hx,h⟩:=h1
   simp at h
   exact h ▸ hx
  simp [this]
theorem he_symm (p q:Int×Int):he p q=he q p:=by
 unfold he
 exact decide_eq_decide.2 ⟨fun h=>by omega,fun h=>by omega⟩
theorem fc_symm (R S:List Int):fc R S=fc S R:=by
 unfold fc
 rw [Bool.eq_iff_iff]
 simp only [List.any_eq_true]
 constructor
 ·rintro ⟨p,hp,q,hq,h⟩
  exact ⟨q,hq,p,hp,by rw [he_symm];exact h⟩
 ·rintro ⟨p,hp,q,hq,h⟩
  exact ⟨q,hq,p,hp,by rw [he_symm];exact h⟩
theorem nr_eq {d:S_Drawing} {k:Nat} (hk:k<d.Faces.length):nr (mapP d) k=nearP d k d.Faces.length:=by
 unfold nr mapP
 simp [List.getD_eq_getElem?_getD,hk]
theorem near_in {d:S_Drawing} {k n:Nat} {x:Int}:x∈nearP d k n↔∃m:Nat,m<n∧x=(m:Int)∧m≠k∧fc (rg d k) (rg d m)=true:=by
 unfold nearP
 simp only [List.mem_map,List.mem_filter,List.mem_range,Bool.and_eq_true,decide_eq_true_eq]
 constructor
 ·rintro ⟨m,⟨h1,h2,h3⟩,rfl⟩
  exact ⟨m,h1,rfl,h2,h3⟩
 ·rintro ⟨m,h1,rfl,h2,h3⟩
  exact ⟨m,⟨h1,h2,h3⟩,rfl⟩
structure Sy (M:S_sides):Prop where
 inn:∀k,k<M.near.length→∀x∈nr M k,∃m:Nat,m<M.near.length∧x=(m:Int)∧m≠k
 sym:∀k m,k<M.near.length→m<M.near.length→(m:Int)∈nr M k→(k:Int)∈nr M m
theorem mapP_sy (d:S_Drawing):Sy (mapP d) where
 inn:=by
  intro k hk x hx
  rw [mapP_len] at hk ⊢
  rw [nr_eq hk] at hx
  obtain ⟨m,h1,h2,h3,_⟩:=near_in.1 hx
  exact ⟨m,h1,h2,h3⟩
 sym:=by
  intro k m hk hm hx
  rw [mapP_len] at hk hm
  rw [nr_eq hk] at hx
  rw [nr_eq hm]
  obtain ⟨m',h1,h2,h3,h4⟩:=near_in.1 hx
  obtain rfl:m=m':=by omega
  exact near_in.2 ⟨k,hk,rfl,fun e=>h3 e.symm,by rw [fc_symm];exact h4⟩
def okT (M:S_sides) (T:List Int) (k:Nat):Bool:=bo M k||(nr M k).any fun x=>decide (x∈T)
def gs (M:S_sides) (T:List Int):Prop:=∀t (h:t<T.length),∃k:Nat,k<M.near.length∧T[t]=(k:Int)∧¬T[t]∈T.take t∧okT M (T.take t) k=true
theorem gs_nil {M:S_sides}:gs M []:=fun t h=>absurd h (by simp)
theorem gs_snoc {M:S_sides} {F:List Int} {k:Nat} (hF:gs M F) (h1:k<M.near.length) (h2:¬(k:Int)∈F) (h3:okT M F k=true):gs M (F++[(k:Int)]):=by
 intro t h
 by_cases c:t<F.length
 ·rw [List.getElem_append_left c,List.take_append_of_le_length (by omega)]
  exact hF t c
 ·have:t=F.length:=by
   rw [List.length_append,List.length_singleton] at h
   omega
  subst this
  rw [List.getElem_append_right (by omega),List.take_left' rfl]
  exact ⟨k,h1,by simp,by simpa using h2,h3⟩
theorem gs_nodup {M:S_sides} {F:List Int} (h:gs M F):F.Nodup:=by
 rw [List.Nodup,List.pairwise_iff_getElem]
 intro i j hi hj hij e
 obtain ⟨k,_,_,h2,_⟩:=h j hj
 exact h2 (e ▸ List.mem_take_iff_getElem.2 ⟨i,by omega,rfl⟩)
theorem gs_in {M:S_sides} {F:List Int} (h:gs M F):∀x∈F,0≤x∧x<M.near.length:=by
 intro x hx
 obtain ⟨t,ht,rfl⟩:=List.getElem_of_mem hx
 obtain ⟨k,k1,k2,_⟩:=h t ht
 omega
theorem full_in {n:Nat} {F:List Int} (h1:F.Nodup) (h2:∀x∈F,0≤x∧x<n) (hl:F.length=n) {k:Nat} (hk:k<n):(k:Int)∈F:=by
 by_cases c:(k:Int)∈F
 ·exact c
 ·have:=small n ((k:Int)::F) (List.nodup_cons.2 ⟨c,h1⟩) (fun x hx=>by
   rcases List.mem_cons.1 hx with rfl | hx
   ·omega
   ·exact h2 x hx)
  rw [List.length_cons] at this
  omega
theorem safe_step {M:S_sides} (hM:Mp M) {T:List Int} (hT:T.length≤1048576):∀j:Nat,j≤M.near.length→(∀k,j≤k→k<M.near.length→(k:Int)∈T∨okT M T k=false)→
 ∃r,loopO (impl_SafeOrder_l6 T M) ((j:Int) - 1)=some r∧((r<0∧∀k,k<M.near.length→(k:Int)∈T∨okT M T k=false)∨∃k:Nat,r=(k:Int)∧k<M.near.length∧¬(k:Int)∈T∧okT M T k=true):=by
 intro j
 have hl:=hM.len
 induction j with
 | zero=>
  intro _ h
  refine ⟨-1,loopO_done ?_,.inl ⟨by omega,fun k hk=>h k (by omega) hk⟩⟩
  unfold impl_SafeOrder_l6
  rw [if_neg (by omega),Option.bind_some,if_neg (by decide)]
  rfl
 | succ j ih=>
  intro hj h
  obtain ⟨n1,n2,n3⟩:=nr_rd hM (k:=j) (by omega)
  rw [show (((j+1:Nat):Int) - 1)=(j:Int) by omega]
  have hs:impl_SafeOrder_l6 T M (j:Int)=if (decide ((j:Int)∈T)||!okT M T j)=true then some (.inl ((j:Int) - 1)) else some (.inr (j:Int)):=by
   unfold impl_SafeOrder_l6 okT
   rw [if_pos (by omega),has_impl _ _ hT,Option.bind_some,n3,n1,w64_id (n:=(j:Int) - 1) (by omega) (by omega)]
   simp only [Option.bind_some]
   rw [hasF1 (V:=fun x=>decide (x∈T)) _ n2 (fun x=>by
    unfold impl_SafeOrder_c1
    rw [has_impl _ _ hT];rfl)]
   cases decide ((j:Int)∈T)<;>cases bo M j<;>cases (nr M j).any fun x=>decide (x∈T)<;>rfl
  by_cases c:(decide ((j:Int)∈T)||!okT M T j)=true
  ·rw [if_pos c] at hs
   rw [loopO_next hs]
   refine ih (by omega) (fun k h1 h2=>?_)
   by_cases e:k=j
   ·subst e
    simpa using c
   ·exact h k (by omega) h2
  ·rw [if_neg c] at hs
   refine ⟨_,loopO_done hs,.inr ⟨j,rfl,by omega,?_,?_⟩⟩
   ·intro e
    simp [e] at c
   ·cases e:okT M T j with
    | true=>rfl
    | false=>simp [e] at c
theorem rev_ok (l:List Int) (hl:l.length≤1048576):slices_Reverse_int64_int64 l=some l.reverse:=by
 have lp:∀(m i:Nat) (s:List Int),l.length≤m+2*i→i≤l.length→(hs:s.length=l.length)→(∀k (h:k<l.length),s[k]'(by omega)=if k<i∨l.length - 1 - i<k then l[l.length - 1 - k]'(by omega) else l[k])→
  loopO slices_Reverse_int64_int64_l1 ((i:Int),(l.length:Int) - 1 - i,s)=some l.reverse:=by
  intro m
  have fin:∀(i:Nat) (s:List Int),¬((i:Int) < (l.length:Int) - 1 - i)→i≤l.length→(hs:s.length=l.length)→(∀k (h:k<l.length),s[k]'(by omega)=if k<i∨l.length - 1 - i<k then l[l.length - 1 - k]'(by omega) else l[k])→
   loopO slices_Reverse_int64_int64_l1 ((i:Int),(l.length:Int) - 1 - i,s)=some l.reverse:=by
   intro i s hi hi2 hs h
   have e:s=l.reverse:=by
    apply List.ext_getElem
    ·rw [hs,List.length_reverse]
    ·intro k h1 h2
     rw [List.getElem_reverse,h k (by omega)]
     by_cases c:k<i∨l.length - 1 - i<k
     ·rw [if_pos c]
     ·rw [if_neg c]
      congr 1
      omega
   refine loopO_done ?_
   unfold slices_Reverse_int64_int64_l1
   simp only
   rw [if_neg hi,e]
  induction m with
  | zero=>
   intro i s h1 h2 hs h
   exact fin i s (by omega) h2 hs h
  | succ m ih=>
   intro i s h1 h2 hs h
   by_cases c:(i:Int) < (l.length:Int) - 1 - i
   ·obtain ⟨j,hj⟩:∃j:Nat,(l.length:Int) - 1 - i=(j:Int)∧j=l.length - 1 - i:=⟨l.length - 1 - i,by omega,rfl⟩
    have st:slices_Reverse_int64_int64_l1 ((i:Int),(l.length:Int) - 1 - i,s)=some (.inl (((i+1:Nat):Int),(l.length:Int) - 1 - ((i+1:Nat):Int),(s.set i (s[j]'(by omega))).set j (s[i]'(by omega)))):=by
     unfold slices_Reverse_int64_int64_l1
     simp only
     rw [if_pos c,hj.1,rd_lt (i:=j) (by omega),Option.bind_some,rd_lt (i:=i) (by omega),Option.bind_some,Option.bind_some,Int.toNat_natCast,rd_lt (i:=j) (by rw [List.length_set];omega),Option.bind_some,w64_succ (by omega),w64_id (n:=(j:Int) - 1) (by omega) (by omega),Int.toNat_natCast]
     rw [show (j:Int) - 1=(l.length:Int) - 1 - ((i+1:Nat):Int) by omega]
    rw [loopO_next st]
    refine ih (i+1) _ (by omega) (by omega) (by simp [hs]) (fun k hk=>?_)
    rw [List.getElem_set,List.getElem_set]
    by_cases c1:j=k
    ·subst c1
     rw [if_pos rfl,if_pos (by omega),h i (by omega),if_neg (by omega)]
     congr 1
     omega
    ·rw [if_neg c1]
     by_cases c2:i=k
     ·subst c2
      rw [if_pos rfl,if_pos (by omega),h j (by omega),if_neg (by omega)]
      congr 1
      omega
     ·rw [if_neg c2,h k hk]
      by_cases c3:k<i∨l.length - 1 - i<k
      ·rw [if_pos c3,if_pos (by omega)]
      ·rw [if_neg c3,if_neg (by omega)]
   ·exact fin i s c h2 hs h
 unfold slices_Reverse_int64_int64
 have:=lp l.length 0 l (by omega) (by omega) rfl (fun k h=>by rw [if_neg (by omega)])
 have hw:w64 ((l.length:Int) - 1)=(l.length:Int) - 1 - ((0:Nat):Int):=by
  rw [w64_id (by omega) (by omega)]
  omega
 rw [hw]
 have t:loopO slices_Reverse_int64_int64_l1 (0,(l.length:Int) - 1 - ((0:Nat):Int),l)=_:=this
 rw [t]
 rfl
section
variable {d:S_Drawing} (hv:impl_ValidDrawing d=some true) (hb:bD d)
include hv hb
theorem safe_ok:∃o code,impl_SafeOrder d=some (o,code)∧((code=0∧∃T,gs (mapP d) T∧T.length=(mapP d).near.length∧o=T.reverse)∨
 (code=3∧∃T,gs (mapP d) T∧T.length< (mapP d).near.length∧∀k,k< (mapP d).near.length→(k:Int)∈T∨okT (mapP d) T k=false)):=by
 have hF:=hb.1.1
 have hn:=mapP_len d
 have lp:∀(k:Nat) (F:List Int),F.length+k=d.Faces.length→gs (mapP d) F→
  (∃G,loopO (impl_SafeOrder_l4 d (mapP d)) F=some (.inl G)∧gs (mapP d) G∧G.length=d.Faces.length)∨
  (loopO (impl_SafeOrder_l4 d (mapP d)) F=some (.inr ([],3))∧∃T,gs (mapP d) T∧T.length< (mapP d).near.length∧∀k,k< (mapP d).near.length→(k:Int)∈T∨okT (mapP d) T k=false):=by
  intro k
  induction k with
  | zero=>
   intro F hk hg
   refine .inl ⟨F,loopO_done ?_,hg,by omega⟩
   unfold impl_SafeOrder_l4
   rw [if_neg (by omega)]
  | succ k ih=>
   intro F hk hg
   obtain ⟨r,e,h⟩:=safe_step (mapP_ok hb) (T:=F) (by omega) (mapP d).near.length (Nat.le_refl _) (fun k h1 h2=>by omega)
   have hs:impl_SafeOrder_l4 d (mapP d) F=if r<0 then some (.inr (.inr ([],3))) else ((apd 8 F [r]).bind fun x55=>some (.inl x55)):=by
    unfold impl_SafeOrder_l4
    rw [if_pos (by omega),←hn,w64_id (n:=((mapP d).near.length:Int) - 1) (by omega) (by omega),e,Option.bind_some]
   rcases h with ⟨h1,h2⟩ | ⟨j,rfl,h1,h2,h3⟩
   ·rw [if_pos h1] at hs
    exact .inr ⟨loopO_done hs,F,hg,by omega,h2⟩
   ·rw [if_neg (by omega),apdn (by simp only [List.length_singleton];omega),Option.bind_some] at hs
    rw [loopO_next hs]
    exact ih _ (by rw [List.length_append,List.length_singleton];omega) (gs_snoc hg h1 h2 h3)
 unfold impl_SafeOrder
 rw [hv,Option.bind_some,if_pos rfl,sides_impl hb,Option.bind_some]
 rcases lp d.Faces.length [] (by simp) gs_nil with ⟨G,e,h1,h2⟩ | ⟨e,h⟩
 ·rw [e]
  simp only [Option.bind_some]
  rw [rev_ok G (by omega)]
  exact ⟨G.reverse,0,rfl,.inl ⟨rfl,G,h1,by omega,rfl⟩⟩
 ·rw [e]
  exact ⟨[],3,rfl,.inr ⟨rfl,h⟩⟩
end
def bdL (M:S_sides) (n:Nat):List Int:=((List.range n).filter fun k:Nat=>bo M k).map fun k:Nat=>(k:Int)
theorem bdL_succ {M:S_sides} (n:Nat):bdL M (n+1)=if bo M n=true then bdL M n++[(n:Int)] else bdL M n:=by
 unfold bdL
 rw [List.range_succ,List.filter_append,List.map_append]
 cases e:bo M n<;>simp [e]
theorem bdL_len {M:S_sides} (n:Nat):(bdL M n).length≤n:=by
 unfold bdL
 rw [List.length_map]
 exact Nat.le_trans (List.length_filter_le _ (List.range n)) (Nat.le_of_eq List.length_range)
theorem bdL_in {M:S_sides} {n:Nat} {x:Int}:x∈bdL M n↔∃k:Nat,k<n∧x=(k:Int)∧bo M k=true:=by
 unfold bdL
 simp only [List.mem_map,List.mem_filter,List.mem_range]
 constructor
 ·rintro ⟨k,⟨h1,h2⟩,rfl⟩
  exact ⟨k,h1,rfl,h2⟩
 ·rintro ⟨k,h1,rfl,h2⟩
  exact ⟨k,⟨h1,h2⟩,rfl⟩
theorem bdL_nodup {M:S_sides} (n:Nat):(bdL M n).Nodup:=by
 unfold bdL
 exact List.Pairwise.map _ (fun a b hab e=>hab (by exact_mod_cast e)) (List.Pairwise.filter _ List.nodup_range)
theorem border_ok {d:S_Drawing} (hv:impl_ValidDrawing d=some true) (hb:bD d):impl_BorderFaces d=some (bdL (mapP d) (mapP d).near.length,0):=by
 have hM:=mapP_ok hb
 have hl:=hM.len
 have hbl:=hM.bd
 unfold impl_BorderFaces
 rw [hv,Option.bind_some,if_pos rfl,sides_impl hb,Option.bind_some]
 have e:loopO (impl_BorderFaces_l5 (mapP d)) (0,[])=some (bdL (mapP d) (mapP d).near.length):=by
  refine loopO_for (fun k:Nat=>((k:Int),bdL (mapP d) k)) (mapP d).near.length (fun k hk=>?_) ?_
  ·have h2:=bdL_len (M:=mapP d) k
   unfold impl_BorderFaces_l5 impl_BorderFaces_k9
   simp only
   rw [if_pos (by omega),(nr_rd hM hk).2.2,Option.bind_some,bdL_succ,w64_succ (by omega)]
   cases bo (mapP d) k with
   | true=>rw [if_pos rfl,if_pos rfl,apdn (by simp only [List.length_singleton];omega)];rfl
   | false=>rfl
  ·unfold impl_BorderFaces_l5
   simp only
   rw [if_neg (by omega)]
 rw [e]
 rfl
theorem row_in {n:Nat} (hn:n≤1048576) {N:List Int} (hN:∀x∈N,0≤x∧x<n) (hNl:N.length≤1048576):∀(k i:Nat) (Q:List Int),i+k=N.length→Q.Nodup→(∀x∈Q,0≤x∧x<n)→
 ∃E,loopO (impl_EnclosedFaces_l9 N) ((i:Int),Q)=some (Q++E)∧(Q++E).Nodup∧(∀x∈E,x∈N)∧∀j (hj:j<N.length),i≤j→N[j]∈Q++E:=by
 intro k
 induction k with
 | zero=>
  intro i Q hi h1 h2
  refine ⟨[],loopO_done ?_,by simpa using h1,(fun x hx=>by cases hx),fun j hj hij=>by omega⟩
  unfold impl_EnclosedFaces_l9
  simp only
  rw [if_neg (by omega),List.append_nil]
 | succ k ih=>
  intro i Q hi h1 h2
  have hi':i<N.length:=by omega
  have hQ:=small n Q h1 h2
  by_cases c:N[i]∈Q
  ·have st:impl_EnclosedFaces_l9 N ((i:Int),Q)=some (.inl (((i+1:Nat):Int),Q)):=by
    unfold impl_EnclosedFaces_l9 impl_EnclosedFaces_k13
    simp only
    rw [if_pos (by omega),rd_lt hi',Option.bind_some,has_impl _ _ (by omega),Option.bind_some,decide_eq_true c,if_pos rfl,w64_succ (by omega)]
   obtain ⟨E,e1,e2,e3,e4⟩:=ih (i+1) Q (by omega) h1 h2
   refine ⟨E,by rw [loopO_next st];exact e1,e2,e3,fun j hj hij=>?_⟩
   by_cases cj:j=i
   ·subst cj
    exact List.mem_append_left _ c
   ·exact e4 j hj (by omega)
  ·have st:impl_EnclosedFaces_l9 N ((i:Int),Q)=some (.inl (((i+1:Nat):Int),Q++[N[i]])):=by
    unfold impl_EnclosedFaces_l9 impl_EnclosedFaces_k13
    simp only
    rw [if_pos (by omega),rd_lt hi',Option.bind_some,has_impl _ _ (by omega),Option.bind_some,decide_eq_false c,if_neg (by decide),apdn (by simp only [List.length_singleton];omega),Option.bind_some,w64_succ (by omega)]
   obtain ⟨E,e1,e2,e3,e4⟩:=ih (i+1) (Q++[N[i]]) (by omega) (List.nodup_append.2 ⟨h1,by simp,fun a ha b hb e=>c (by rw [List.mem_singleton] at hb;rw [←hb,←e];exact ha)⟩) (fun x hx=>by
    rcases List.mem_append.1 hx with hx | hx
    ·exact h2 x hx
    ·rw [List.mem_singleton.1 hx]
     exact hN _ (List.getElem_mem hi'))
   rw [List.append_assoc] at e1 e2
   refine ⟨[N[i]]++E,by rw [loopO_next st];exact e1,e2,fun x hx=>?_,fun j hj hij=>?_⟩
   ·rcases List.mem_append.1 hx with hx | hx
    ·rw [List.mem_singleton.1 hx]
     exact List.getElem_mem hi'
    ·exact e3 x hx
   ·by_cases cj:j=i
    ·subst cj
     simp
    ·have:=e4 j hj (by omega)
     rw [List.append_assoc] at this
     exact this
theorem bfs_ok {M:S_sides} (hM:Mp M) (hS:Sy M):∀(m i:Nat) (Q:List Int),M.near.length≤m+i→i≤Q.length→Q.Nodup→(∀x∈Q,0≤x∧x<M.near.length)→
 (∀j (hj:j<Q.length),j<i→∀k:Nat,Q[j]=(k:Int)→∀y∈nr M k,y∈Q)→
 ∃R,loopO (impl_EnclosedFaces_l6 M.near) ((i:Int),Q)=some R∧R.Nodup∧(∀x∈R,0≤x∧x<M.near.length)∧(∀x∈Q,x∈R)∧
  (∀k:Nat,(k:Int)∈R→∀y∈nr M k,y∈R)∧
  ∀W:Int→Prop,(∀x∈Q,W x)→(∀k:Nat,k<M.near.length→W (k:Int)→∀y∈nr M k,W y)→∀x∈R,W x:=by
 have hl:=hM.len
 intro m
 have fin:∀(i:Nat) (Q:List Int),i=Q.length→Q.Nodup→(∀x∈Q,0≤x∧x<M.near.length)→
  (∀j (hj:j<Q.length),j<i→∀k:Nat,Q[j]=(k:Int)→∀y∈nr M k,y∈Q)→
  ∃R,loopO (impl_EnclosedFaces_l6 M.near) ((i:Int),Q)=some R∧R.Nodup∧(∀x∈R,0≤x∧x<M.near.length)∧(∀x∈Q,x∈R)∧
   (∀k:Nat,(k:Int)∈R→∀y∈nr M k,y∈R)∧
   ∀W:Int→Prop,(∀x∈Q,W x)→(∀k:Nat,k<M.near.length→W (k:Int)→∀y∈nr M k,W y)→∀x∈R,W x:=by
  intro i Q hi h1 h2 h3
  refine ⟨Q,loopO_done ?_,h1,h2,fun x hx=>hx,fun k hk y hy=>?_,fun W hW _=>hW⟩
  ·unfold impl_EnclosedFaces_l6
   simp only
   rw [if_neg (by omega)]
  ·obtain ⟨j,hj,e⟩:=List.getElem_of_mem hk
   exact h3 j hj (by omega) k e y hy
 induction m with
 | zero=>
  intro i Q hm hi h1 h2 h3
  have:=small M.near.length Q h1 h2
  exact fin i Q (by omega) h1 h2 h3
 | succ m ih=>
  intro i Q hm hi h1 h2 h3
  have hQ:=small M.near.length Q h1 h2
  by_cases c:i=Q.length
  ·exact fin i Q c h1 h2 h3
  have hi':i<Q.length:=by omega
  obtain ⟨k,hk,hk2⟩:∃k:Nat,k<M.near.length∧Q[i]=(k:Int):=by
   have:=h2 Q[i] (List.getElem_mem hi')
   exact ⟨Q[i].toNat,by omega,by omega⟩
  obtain ⟨n1,n2,_⟩:=nr_rd hM hk
  have hin:∀x∈nr M k,0≤x∧x<M.near.length:=fun x hx=>by
   obtain ⟨m,m1,m2,_⟩:=hS.inn k hk x hx
   omega
  obtain ⟨E,e1,e2,e3,e4⟩:=row_in hl hin n2 (nr M k).length 0 Q (by omega) h1 h2
  have e1:loopO (impl_EnclosedFaces_l9 (nr M k)) (0,Q)=_:=e1
  have st:impl_EnclosedFaces_l6 M.near ((i:Int),Q)=some (.inl (((i+1:Nat):Int),Q++E)):=by
   unfold impl_EnclosedFaces_l6
   simp only
   rw [if_pos (by omega),rd_lt hi',Option.bind_some,hk2,n1,Option.bind_some,e1,Option.bind_some,w64_succ (by omega)]
  obtain ⟨R,r1,r2,r3,r4,r5,r6⟩:=ih (i+1) (Q++E) (by omega) (by rw [List.length_append];omega) e2 (fun x hx=>by
   rcases List.mem_append.1 hx with hx | hx
   ·exact h2 x hx
   ·exact hin x (e3 x hx)) (fun j hj hji k' hk' y hy=>by
   by_cases cj:j=i
   ·subst cj
    rw [List.getElem_append_left hi',hk2] at hk'
    obtain rfl:k=k':=by omega
    obtain ⟨t,ht,rfl⟩:=List.getElem_of_mem hy
    exact e4 t ht (by omega)
   ·rw [List.getElem_append_left (by omega)] at hk'
    exact List.mem_append_left _ (h3 j (by omega) (by omega) k' hk' y hy))
  refine ⟨R,by rw [loopO_next st];exact r1,r2,r3,fun x hx=>r4 x (List.mem_append_left _ hx),r5,fun W hW hW2=>r6 W (fun x hx=>?_) hW2⟩
  rcases List.mem_append.1 hx with hx | hx
  ·exact hW x hx
  ·refine hW2 k hk ?_ x (e3 x hx)
   rw [←hk2]
   exact hW _ (List.getElem_mem hi')
def enL (R:List Int) (n:Nat):List Int:=((List.range n).filter fun k:Nat=>!decide ((k:Int)∈R)).map fun k:Nat=>(k:Int)
theorem enL_succ {R:List Int} (n:Nat):enL R (n+1)=if decide ((n:Int)∈R)=true then enL R n else enL R n++[(n:Int)]:=by
 unfold enL
 rw [List.range_succ,List.filter_append,List.map_append]
 cases e:decide ((n:Int)∈R)<;>simp [e]
theorem enL_len {R:List Int} (n:Nat):(enL R n).length≤n:=by
 unfold enL
 rw [List.length_map]
 exact Nat.le_trans (List.length_filter_le _ (List.range n)) (Nat.le_of_eq List.length_range)
theorem enL_in {R:List Int} {n:Nat} {x:Int}:x∈enL R n↔∃k:Nat,k<n∧x=(k:Int)∧¬(k:Int)∈R:=by
 unfold enL
 simp only [List.mem_map,List.mem_filter,List.mem_range,Bool.not_eq_true',decide_eq_false_iff_not]
 constructor
 ·rintro ⟨k,⟨h1,h2⟩,rfl⟩
  exact ⟨k,h1,rfl,h2⟩
 ·rintro ⟨k,h1,rfl,h2⟩
  exact ⟨k,⟨h1,h2⟩,rfl⟩
theorem sum_le {M:S_sides} {R:List Int} (n:Nat) (h:∀k:Nat,k<n→bo M k=true→(k:Int)∈R):(bdL M n).length+(enL R n).length≤n:=by
 induction n with
 | zero=>simp [bdL,enL]
 | succ n ih=>
  have:=ih (fun k hk=>h k (by omega))
  rw [bdL_succ,enL_succ]
  cases e:bo M n with
  | true=>
   have hm:=h n (by omega) e
   rw [if_pos rfl,decide_eq_true hm,if_pos rfl,List.length_append,List.length_singleton]
   omega
  | false=>
   rw [if_neg (by decide)]
   split
   ·omega
   ·rw [List.length_append,List.length_singleton]
    omega
theorem enclosed_ok {d:S_Drawing} (hv:impl_ValidDrawing d=some true) (hb:bD d):∃R,impl_EnclosedFaces d=some (enL R (mapP d).near.length,0)∧
 (∀k:Nat,k< (mapP d).near.length→bo (mapP d) k=true→(k:Int)∈R)∧(∀k:Nat,(k:Int)∈R→∀y∈nr (mapP d) k,y∈R)∧
 ∀W:Int→Prop,(∀k:Nat,k< (mapP d).near.length→bo (mapP d) k=true→W (k:Int))→(∀k:Nat,k< (mapP d).near.length→W (k:Int)→∀y∈nr (mapP d) k,W y)→∀x∈R,W x:=by
 have hM:=mapP_ok hb
 have hl:=hM.len
 have hn:=mapP_len d
 obtain ⟨R,r1,r2,r3,r4,r5,r6⟩:=bfs_ok hM (mapP_sy d) (mapP d).near.length 0 (bdL (mapP d) (mapP d).near.length) (by omega) (by omega) (bdL_nodup _) (fun x hx=>by
  obtain ⟨k,k1,rfl,_⟩:=bdL_in.1 hx
  omega) (fun j _ h=>absurd h (by omega))
 have r1:loopO (impl_EnclosedFaces_l6 (mapP d).near) (0,bdL (mapP d) (mapP d).near.length)=_:=r1
 have hRl:=small _ R r2 r3
 refine ⟨R,?_,fun k hk hbo=>r4 _ (bdL_in.2 ⟨k,hk,rfl,hbo⟩),r5,fun W h1 h2=>r6 W (fun x hx=>by
  obtain ⟨k,k1,rfl,k2⟩:=bdL_in.1 hx
  exact h1 k k1 k2) h2⟩
 have en:loopO (impl_EnclosedFaces_l16 d R) (0,[])=some (enL R d.Faces.length):=by
  refine loopO_for (fun k:Nat=>((k:Int),enL R k)) d.Faces.length (fun k hk=>?_) ?_
  ·have h2:=enL_len (R:=R) k
   unfold impl_EnclosedFaces_l16 impl_EnclosedFaces_k20
   simp only
   rw [if_pos (by omega),has_impl _ _ (by omega),Option.bind_some,enL_succ,w64_succ (by omega)]
   cases decide ((k:Int)∈R) with
   | true=>rfl
   | false=>rw [if_neg (by decide),if_neg (by decide),apdn (by simp only [List.length_singleton];omega)];rfl
  ·unfold impl_EnclosedFaces_l16
   simp only
   rw [if_neg (by omega)]
 have hne:impl_neighbours d=some (mapP d).near:=near_impl hb.1
 unfold impl_EnclosedFaces
 rw [border_ok hv hb,Option.bind_some]
 simp only
 rw [if_neg (by decide),hne,Option.bind_some,r1,Option.bind_some,en,Option.bind_some,hn]
theorem okT_iff {M:S_sides} {T:List Int} {k:Nat}:okT M T k=true↔bo M k=true∨∃y∈nr M k,y∈T:=by
 unfold okT
 rw [Bool.or_eq_true,List.any_eq_true]
 simp only [decide_eq_true_eq]
theorem gs_reach {M:S_sides} (hS:Sy M) {T R:List Int} (hT:gs M T) (h1:∀k:Nat,k<M.near.length→bo M k=true→(k:Int)∈R) (h2:∀k:Nat,(k:Int)∈R→∀y∈nr M k,y∈R):
 ∀n t (ht:t<T.length),t≤n→T[t]∈R:=by
 intro n
 induction n with
 | zero=>
  intro t ht hn
  obtain rfl:t=0:=by omega
  obtain ⟨k,k1,k2,k3,k4⟩:=hT 0 ht
  rcases okT_iff.1 k4 with h | ⟨y,_,hy⟩
  ·rw [k2];exact h1 k k1 h
  ·simp at hy
 | succ n ih=>
  intro t ht hn
  obtain ⟨k,k1,k2,k3,k4⟩:=hT t ht
  rcases okT_iff.1 k4 with h | ⟨y,hy,hyT⟩
  ·rw [k2];exact h1 k k1 h
  ·obtain ⟨j,hj,rfl⟩:=List.mem_take_iff_getElem.1 hyT
   have hr:=ih j (by omega) (by omega)
   obtain ⟨m,m1,m2,m3⟩:=hS.inn k k1 _ hy
   rw [m2] at hr hy
   rw [k2]
   exact h2 m hr _ (hS.sym k m k1 m1 hy)
theorem stuck_reach {M:S_sides} (hS:Sy M) {T R:List Int} (hT:∀k,k<M.near.length→(k:Int)∈T∨okT M T k=false)
 (hR:∀W:Int→Prop,(∀k:Nat,k<M.near.length→bo M k=true→W (k:Int))→(∀k:Nat,k<M.near.length→W (k:Int)→∀y∈nr M k,W y)→∀x∈R,W x):∀x∈R,x∈T:=by
 refine hR (fun x=>x∈T) (fun k hk hb=>?_) (fun k hk hw y hy=>?_)
 ·rcases hT k hk with h | h
  ·exact h
  ·rw [okT_iff.2 (.inl hb)] at h
   cases h
 ·obtain ⟨m,m1,rfl,m3⟩:=hS.inn k hk y hy
  rcases hT m m1 with h | h
  ·exact h
  ·rw [okT_iff.2 (.inr ⟨_,hS.sym k m hk m1 hy,hw⟩)] at h
   cases h
theorem no_path {M:S_sides} (hS:Sy M) {T G:List Int} (hT:∀k,k<M.near.length→(k:Int)∈T∨okT M T k=false) (hG:gd M G) (hl:G.length=M.near.length):
 ∀n t (ht:t<G.length),G.length≤n+t→(∀j (hj:j<G.length),t<j→G[j]∈T)→G[t]∈T:=by
 intro n t ht _ hlast
 obtain ⟨k,k1,k2,k3,k4⟩:=gd_not hG ht
 by_cases c:G[t]∈T
 ·exact c
 exfalso
 have ho:okT M T k=false:=(hT k k1).resolve_left (by rw [←k2];exact c)
 have hbo:bo M k=false:=by
  cases e:bo M k with
  | false=>rfl
  | true=>rw [okT_iff.2 (.inl e)] at ho;cases ho
 have htr:trP M (G.take t) k=true:=by
  unfold trP
  rw [hbo,Bool.not_false,Bool.true_and,List.all_eq_true]
  intro y hy
  rw [decide_eq_true_eq]
  have hyT:¬y∈T:=fun h=>by
   rw [okT_iff.2 (.inr ⟨y,hy,h⟩)] at ho
   cases ho
  obtain ⟨m,m1,rfl,m3⟩:=hS.inn k k1 y hy
  obtain ⟨j,hj,e⟩:=List.getElem_of_mem (all_in hG hl m1)
  have hne:j≠t:=by
   rintro rfl
   omega
  have hlt:j<t:=by
   by_cases h:t<j
   ·exact absurd (e ▸ hlast j hj h) hyT
   ·omega
  exact e ▸ List.mem_take_iff_getElem.2 ⟨j,by omega,rfl⟩
 unfold kdP at k4
 rw [htr] at k4
 split at k4<;>cases k4
theorem no_path_all {M:S_sides} (hS:Sy M) {T G:List Int} (hT:∀k,k<M.near.length→(k:Int)∈T∨okT M T k=false) (hG:gd M G) (hl:G.length=M.near.length):∀x∈G,x∈T:=by
 have key:∀n t (ht:t<G.length),G.length≤n+t+1→∀j (hj:j<G.length),t≤j→G[j]∈T:=by
  intro n
  induction n with
  | zero=>
   intro t ht hn j hj hij
   obtain rfl:j=t:=by omega
   exact no_path hS hT hG hl G.length j hj (by omega) (fun i hi h=>by omega)
  | succ n ih=>
   intro t ht hn j hj hij
   by_cases c:t+1<G.length
   ·by_cases cj:j=t
    ·subst cj
     exact no_path hS hT hG hl G.length j hj (by omega) (fun i hi h=>ih (j+1) c (by omega) i hi (by omega))
    ·exact ih (t+1) c (by omega) j hj (by omega)
   ·obtain rfl:j=t:=by omega
    exact no_path hS hT hG hl G.length j hj (by omega) (fun i hi h=>by omega)
 intro x hx
 obtain ⟨j,hj,rfl⟩:=List.getElem_of_mem hx
 exact key G.length 0 (by omega) (by omega) j hj (by omega)
theorem rev_free {M:S_sides} {T:List Int} (hT:gs M T) {i:Nat} (hi:i<T.reverse.length):∃k:Nat,k<M.near.length∧T.reverse[i]=(k:Int)∧¬T.reverse[i]∈T.reverse.take i∧trP M (T.reverse.take i) k=false:=by
 have hi':i<T.length:=by
  rw [List.length_reverse] at hi
  exact hi
 have hnd:=gs_nodup hT
 have hx:T.reverse[i]=T[T.length - 1 - i]'(by omega):=List.getElem_reverse _
 have hnot:∀(j:Nat) (hj:j<T.length),j≤T.length - 1 - i→¬T[j]∈T.reverse.take i:=by
  intro j hj hji hm
  obtain ⟨u,hu,e⟩:=List.mem_take_iff_getElem.1 hm
  rw [List.length_reverse] at hu
  rw [List.getElem_reverse] at e
  have:=(List.nodup_iff_pairwise_ne.1 hnd)
  rw [List.pairwise_iff_getElem] at this
  exact this j (T.length - 1 - u) hj (by omega) (by omega) e.symm
 obtain ⟨k,k1,k2,k3,k4⟩:=hT (T.length - 1 - i) (by omega)
 refine ⟨k,k1,by rw [hx,k2],by rw [hx];exact hnot _ _ (Nat.le_refl _),?_⟩
 unfold trP
 rcases okT_iff.1 k4 with h | ⟨y,hy,hyT⟩
 ·rw [h];rfl
 ·obtain ⟨j,hj,rfl⟩:=List.mem_take_iff_getElem.1 hyT
  rw [Bool.and_eq_false_iff]
  right
  rw [List.all_eq_false]
  exact ⟨_,hy,by simpa using hnot j (by omega) (by omega)⟩
theorem face_ok2 {F:List Int} {n:Nat} (hl:n≤1048576) (h:∀t (ht:t<F.length),∃k:Nat,k<n∧F[t]=(k:Int)∧¬F[t]∈F.take t) (hF:F.length≤1048576):impl_isFaceOrder F (n:Int)=some true:=by
 unfold impl_isFaceOrder
 have e:loopO (impl_isFaceOrder_l2 F (n:Int)) ((0:Nat):Int)=some (.inl ()):=by
  refine loopO_for (fun t:Nat=>(t:Int)) F.length (fun t ht=>?_) ?_
  ·obtain ⟨k,k1,k2,k3⟩:=h t ht
   unfold impl_isFaceOrder_l2
   rw [if_pos (by omega),rd_lt ht,Option.bind_some,within_eq,Option.bind_some,w64_id (n:=(n:Int) - 1) (by omega) (by omega),decide_eq_true (show 0≤F[t]∧F[t]≤(n:Int) - 1 by omega),if_pos rfl,slc0 (by omega),Option.bind_some,has_impl _ _ (by rw [List.length_take];omega),Option.bind_some,decide_eq_false k3,Option.bind_some,if_neg (by decide),w64_succ (by omega)]
  ·unfold impl_isFaceOrder_l2
   rw [if_neg (by omega)]
 have e:loopO (impl_isFaceOrder_l2 F (n:Int)) 0=_:=e
 rw [e]
 rfl
theorem trapped_ok {d:S_Drawing} (hv:impl_ValidDrawing d=some true) (hb:bD d) {F:List Int} {k:Nat} (h:∀t (ht:t<F.length),∃k:Nat,k<d.Faces.length∧F[t]=(k:Int)∧¬F[t]∈F.take t)
 (hF:F.length≤1048576) (hk:k<d.Faces.length) (hn:¬(k:Int)∈F):impl_IsTrapped d F (k:Int)=some (trP (mapP d) F k):=by
 have hl:=hb.1.1
 unfold impl_IsTrapped impl_canAsk
 rw [hv,Option.bind_some,if_pos rfl,face_ok2 hl h hF,Option.bind_some,if_pos rfl,w64_id (n:=(d.Faces.length:Int) - 1) (by omega) (by omega),within_eq,Option.bind_some,decide_eq_true (show 0≤(k:Int)∧(k:Int)≤(d.Faces.length:Int) - 1 by omega),if_pos rfl,has_impl _ _ hF,Option.bind_some,decide_eq_false hn]
 simp only [Option.bind_some,Bool.not_false,if_true]
 rw [sides_impl hb,Option.bind_some,trap_impl (mapP_ok hb) hF (by rw [mapP_len];exact hk)]
 rfl
theorem law_Trapped (c:List Int) (hc:∀x∈c,0≤x∧x≤255):laws_FnTrapped c=some true:=by
 unfold laws_FnTrapped
 by_cases c1:(c.length:Int) >1048576
 ·rw [if_pos c1]
 rw [if_neg c1]
 obtain ⟨d,d1,dv,db⟩:=panel_ok hc
 rw [d1,Option.bind_some]
 have hb:=bD_of db
 have hF:=hb.1.1
 have hM:=mapP_ok hb
 have hS:=mapP_sy d
 have hl:=mapP_len d
 obtain ⟨o,code,o1,ho⟩:=safe_ok dv hb
 obtain ⟨R,r1,r2,r3,r4⟩:=enclosed_ok dv hb
 have hs:=sum_le (R:=R) (mapP d).near.length r2
 have hsw:=w64_id (n:=((bdL (mapP d) (mapP d).near.length).length:Int)+((enL R (mapP d).near.length).length:Int)) (by omega) (by omega)
 rw [o1,r1,border_ok dv hb]
 simp only [Option.bind_some,hsw]
 rw [if_neg (by omega)]
 rcases ho with ⟨rfl,T,t1,t2,rfl⟩ | ⟨rfl,T,t1,t2,t3⟩
 ·rw [if_neg (by decide)]
  have hall:∀k:Nat,k< (mapP d).near.length→(k:Int)∈R:=fun k hk=>by
   have hm:=full_in (gs_nodup t1) (gs_in t1) t2 hk
   obtain ⟨t,ht,e⟩:=List.getElem_of_mem hm
   rw [←e]
   exact gs_reach hS t1 r2 r3 T.length t ht (by omega)
  have hen:enL R (mapP d).near.length=[]:=List.eq_nil_iff_forall_not_mem.2 fun x hx=>by
   obtain ⟨k,k1,_,k2⟩:=enL_in.1 hx
   exact k2 (hall k k1)
  rw [hen,if_neg (by rw [List.length_reverse,List.length_nil];omega)]
  have hrl:T.reverse.length=d.Faces.length:=by rw [List.length_reverse];omega
  have hbl:=bdL_len (M:=mapP d) (mapP d).near.length
  have lp:loopO (laws_FnTrapped_l15 d (T.reverse,0) (bdL (mapP d) (mapP d).near.length,0)) ((0:Nat):Int)=some (.inl ()):=by
   refine loopO_for (fun t:Nat=>(t:Int)) T.reverse.length (fun i hi=>?_) ?_
   ·obtain ⟨k,k1,k2,k3,k4⟩:=rev_free t1 hi
    have hp:∀t (ht:t< (T.reverse.take i).length),∃k:Nat,k<d.Faces.length∧(T.reverse.take i)[t]=(k:Int)∧¬(T.reverse.take i)[t]∈(T.reverse.take i).take t:=by
     intro t ht
     have ht':t<i:=by rw [List.length_take] at ht;omega
     obtain ⟨k',q1,q2,q3,_⟩:=rev_free t1 (i:=t) (by omega)
     refine ⟨k',by omega,by rw [List.getElem_take];exact q2,?_⟩
     rw [List.getElem_take,List.take_take,Nat.min_eq_left (by omega)]
     exact q3
    have hpl:(T.reverse.take i).length≤1048576:=by rw [List.length_take];omega
    unfold laws_FnTrapped_l15
    simp only
    rw [if_pos (by omega),rd_lt hi]
    simp only [Option.bind_some]
    rw [if_neg (by omega),if_neg (by omega),slc0 (by omega)]
    simp only [Option.bind_some,Int.toNat_natCast,List.drop_zero]
    rw [r8has _ _ hpl]
    simp only [Option.bind_some]
    rw [decide_eq_false k3,if_neg (by decide),r8has _ _ (by omega),k2,trapped_ok dv hb hp hpl (by omega) (by rw [←k2];exact k3),k4]
    simp only [Option.bind_some]
    rw [if_neg (by decide),w64_succ (by omega)]
    cases decide ((k:Int)∈bdL (mapP d) (mapP d).near.length)<;>rfl
   ·unfold laws_FnTrapped_l15
    simp only
    rw [if_neg (by omega)]
  have lp:loopO (laws_FnTrapped_l15 d (T.reverse,0) (bdL (mapP d) (mapP d).near.length,0)) 0=_:=lp
  rw [lp]
  rfl
 ·rw [if_pos (by decide)]
  have hne:0< (enL R (mapP d).near.length).length:=by
   rw [List.length_pos_iff]
   intro e
   have:(mapP d).near.length≤T.length:=pig _ _ fun k hk=>by
    by_cases ck:(k:Int)∈R
    ·exact stuck_reach hS t3 r4 _ ck
    ·have:=enL_in.2 ⟨k,hk,rfl,ck⟩
     rw [e] at this
     cases this
   omega
  obtain ⟨q1,q0,s1,s0,p1,p0,hcase⟩:=run_two hM 2000 [] 2000 (by decide) (by omega) (by simp) (by omega) gd_nil
  have e1:=search_val dv hb p1
  have fin:∀x:Int,x≠0→some (((3:Int)==3)&&(decide (((enL R (mapP d).near.length).length:Int) >0))&&(x != 0))=some true:=by
   intro x hx
   simp [hx,hne]
  rcases hcase with ⟨rfl,rfl,rfl,rfl⟩ | ⟨L',rfl,rfl,rfl,rfl,k1,k2,k3⟩ | ⟨G,L',L'',n,b,rfl,rfl,k1,k2,k3,rfl,k4,k5,k6,k7,k8,k9⟩
  ·have f1:impl_FirstAssembly d 2000=some ([],5):=by unfold impl_FirstAssembly impl_FirstAssembly_k4;rw [e1];rfl
   rw [f1]
   exact fin 5 (by decide)
  ·have f1:impl_FirstAssembly d 2000=some ([],3):=by
    unfold impl_FirstAssembly impl_FirstAssembly_k4
    rw [e1]
    simp only
    rw [if_neg (by omega)]
    rfl
   rw [f1]
   exact fin 3 (by decide)
  ·exfalso
   have:(mapP d).near.length≤T.length:=pig _ _ fun k hk=>no_path_all hS t3 k2 k3 _ (all_in k2 k3 hk)
   omega
end Go.Pw
