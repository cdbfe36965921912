/- The plain law of FnExactBestMatches. Conditions: none. -/
import Derived.Test.YthdegfgajfgggaaTbtT
import Derived.Test.YthdegfgajfgggaaSimPe
import Derived.Test.YthdegfgajfgggaaSimPn
import Derived.Test.YthdegfgajfgggaaSimRh
namespace Go.Pw
open Go.Sim (min2 max2)
set_option linter.unusedVariables false
set_option linter.unusedSimpArgs false
theorem maxLen_eq:maxLen=9223372036854775807:=rfl
theorem bt_szN {α:Type} {f:Int×Int→Option ((Int×Int) ⊕ (Int ⊕ Int))} (l:List α) (B:α→Prop) (hl:l.length<4611686018427387904)
 (h1:∀(i:Nat) (hi:i<l.length) (u:Int),0≤u→u≤1048576→∃v,v≤u∧(v<0∨B l[i])∧f (u,(i:Int))=if v<0 then some (.inr (.inr (-1))) else some (.inl (v,w64 ((i:Int)+1))))
 (h2:∀u,f (u,(l.length:Int))=some (.inr (.inl u))) {left:Int} (h3:0≤left) (h4:left≤1048576):
 Ev (loopO f (left,0)) (fun r=>r= .inr (-1)∨∃v,r= .inl v∧0≤v∧v≤left∧∀x∈l,B x):=by
 refine Ev.loop (fun s=>∃i:Nat,s.2=(i:Int)∧i≤l.length∧0≤s.1∧s.1≤left∧∀x∈l.take i,B x) (fun s=>((l.length:Int) - s.2).toNat) ?_ ⟨0,rfl,Nat.zero_le _,h3,Int.le_refl _,fun x hx=>(by simp at hx)⟩
 rintro ⟨u,i⟩ ⟨j,rfl,j1,j2,j3,j4⟩
 simp only at j2 j3
 by_cases c:j<l.length
 ·obtain ⟨v,v1,v2,v3⟩:=h1 j c u j2 (by omega)
  rw [v3]
  refine Ev.ite (fun _=>Ev.ret (.inl rfl)) fun hv=>?_
  rw [w64_succ (by omega)]
  refine Ev.ret ⟨⟨j+1,rfl,by omega,by simp only;omega,by simp only;omega,fun x hx=>?_⟩,by simp only;omega⟩
  rw [List.take_succ_eq_append_getElem c] at hx
  rcases List.mem_append.1 hx with hx | hx
  ·exact j4 x hx
  ·rw [List.mem_singleton] at hx
   subst hx
   exact v2.resolve_left hv
 ·obtain rfl:j=l.length:=by omega
  rw [h2]
  exact Ev.ret (.inr ⟨u,rfl,j2,j3,by rwa [List.take_length] at j4⟩)
theorem bt_szInt64S (l:(List Int)) (h:((∀a∈l,(Lit.int .i64 a).wf=true)∧l.length≤maxLen)) {left:Int} (h0:0≤left) (h1:left≤1048576):Ev (laws_szInt64S l left) (fun v=>v≤left∧(v<0∨(l.length≤1048576∧∀a∈l,True))):=by
 obtain ⟨hw,hl⟩:=h
 rw [maxLen_eq] at hl
 unfold laws_szInt64S
 rw [w64_id (n:=left - (l.length:Int)) (by omega) (by omega)]
 refine Ev.ite (fun _=>Ev.ret ⟨by omega,.inl (by omega)⟩) fun c=>?_
 exact Ev.ret ⟨by omega,.inr ⟨by omega,fun a _=>trivial⟩⟩
theorem bt_toInt64S (l:(List Int)) (h:(l.length≤1048576∧∀a∈l,True)):laws_toInt64S l=some l:=by
 have hl:=h.1
 unfold laws_toInt64S mkl
 rw [if_pos (by constructor<;>omega),Option.bind_some]
 rw [copyS (f:=laws_toInt64S_l3 l) l _ (by simp) (by omega) ?_ ?_]
 ·rfl
 ·intro i hi out ho
  unfold laws_toInt64S_l3
  simp only
  rw [if_pos (by omega),rd_lt hi,Option.bind_some,rd_lt (by omega:i<out.length),Option.bind_some]
  simp
 ·intro out
  unfold laws_toInt64S_l3
  simp
theorem bt_eqInt64S (l:(List Int)) (h:(l.length≤1048576∧∀a∈l,True)):laws_eqInt64S l l=some true:=by
 have hl:=h.1
 unfold laws_eqInt64S
 rw [if_neg (by simp),eqS_refl (n:=l.length) (by omega) ?_ ?_]
 ·rfl
 ·intro i hi
  unfold laws_eqInt64S_l4
  rw [if_pos (by omega),rd_lt hi]
  simp only [Option.bind_some]
  simp
 ·unfold laws_eqInt64S_l4
  rw [if_neg (by omega)]
def wf_S_Feature (x:S_Feature):Prop:=x.Id.size≤maxLen∧((∀a∈x.Values,(Lit.int .i64 a).wf=true)∧x.Values.length≤maxLen)
def bd_S_Feature (x:S_Feature):Prop:=x.Id.size≤1048576∧(x.Values.length≤1048576∧∀a∈x.Values,True)
theorem bt_szFeature (x:S_Feature) (h:wf_S_Feature x) {left:Int} (h0:0≤left) (h1:left≤1048576):Ev (laws_szFeature x left) (fun v=>v≤left∧(v<0∨bd_S_Feature x)):=by
 obtain ⟨w0,w1⟩:=h
 unfold laws_szFeature
 rw [maxLen_eq] at w0
 rw [w64_id (n:=left - (x.Id.size:Int)) (by omega) (by omega)]
 refine Ev.ite (fun _=>Ev.ret ⟨by omega,.inl (by omega)⟩) fun c0=>?_
 refine Ev.bind (bt_szInt64S x.Values w1 (left:=left - (x.Id.size:Int)) (by omega) (by omega)) fun v1 q1=>?_
 refine Ev.ite (fun _=>Ev.ret ⟨by omega,.inl (by omega)⟩) fun c1=>?_
 exact Ev.ret ⟨by omega,.inr ⟨by omega,q1.2.resolve_left c1⟩⟩
theorem bt_toFeature (x:S_Feature) (h:bd_S_Feature x):laws_toFeature x=some x:=by
 unfold laws_toFeature
 rw [bt_toInt64S x.Values h.2,Option.bind_some]
theorem bt_eqFeature (x:S_Feature) (h:bd_S_Feature x):laws_eqFeature x x=some true:=by
 unfold laws_eqFeature
 simp [bt_eqInt64S x.Values (h.2)]
theorem bt_szFeatureS (l:(List S_Feature)) (h:((∀a∈l,wf_S_Feature a)∧l.length≤maxLen)) {left:Int} (h0:0≤left) (h1:left≤1048576):Ev (laws_szFeatureS l left) (fun v=>v≤left∧(v<0∨(l.length≤1048576∧∀a∈l,bd_S_Feature a))):=by
 obtain ⟨hw,hl⟩:=h
 rw [maxLen_eq] at hl
 unfold laws_szFeatureS
 rw [w64_id (n:=left - (l.length:Int)) (by omega) (by omega)]
 refine Ev.ite (fun _=>Ev.ret ⟨by omega,.inl (by omega)⟩) fun c=>?_
 refine Ev.bind (bt_szN (f:=laws_szFeatureS_l5 l) l (fun a=>bd_S_Feature a) (by omega) (fun i hi u hu1 hu2=>?_) (fun u=>?_) (left:=left - (l.length:Int)) (by omega) (by omega)) fun r hr=>?_
 ·
  obtain ⟨v,v1,v2,v3⟩:=bt_szFeature l[i] (hw _ (List.getElem_mem hi)) hu1 hu2
  refine ⟨v,v2,v3,?_⟩
  unfold laws_szFeatureS_l5
  simp only
  rw [if_pos (by omega),rd_lt hi,Option.bind_some,v1,Option.bind_some]
 ·unfold laws_szFeatureS_l5
  simp only
  rw [if_neg (by omega)]
 ·rcases hr with rfl | ⟨v,rfl,g1,g2,g3⟩
  ·exact Ev.ret ⟨by omega,.inl (by omega)⟩
  ·exact Ev.ret ⟨by omega,.inr ⟨by omega,g3⟩⟩
theorem bt_toFeatureS (l:(List S_Feature)) (h:(l.length≤1048576∧∀a∈l,bd_S_Feature a)):laws_toFeatureS l=some l:=by
 have hl:=h.1
 unfold laws_toFeatureS mkl
 rw [if_pos (by constructor<;>omega),Option.bind_some]
 rw [copyS (f:=laws_toFeatureS_l3 l) l _ (by simp) (by omega) ?_ ?_]
 ·rfl
 ·intro i hi out ho
  unfold laws_toFeatureS_l3
  simp only
  rw [if_pos (by omega),rd_lt hi,Option.bind_some,bt_toFeature l[i] (h.2 _ (List.getElem_mem hi)),Option.bind_some,rd_lt (by omega:i<out.length),Option.bind_some]
  simp
 ·intro out
  unfold laws_toFeatureS_l3
  simp
theorem bt_eqFeatureS (l:(List S_Feature)) (h:(l.length≤1048576∧∀a∈l,bd_S_Feature a)):laws_eqFeatureS l l=some true:=by
 have hl:=h.1
 unfold laws_eqFeatureS
 rw [if_neg (by simp),eqS_refl (n:=l.length) (by omega) ?_ ?_]
 ·rfl
 ·intro i hi
  unfold laws_eqFeatureS_l4
  rw [if_pos (by omega),rd_lt hi]
  simp only [Option.bind_some]
  rw [bt_eqFeature l[i] (h.2 _ (List.getElem_mem hi))]
  rfl
 ·unfold laws_eqFeatureS_l4
  rw [if_neg (by omega)]
theorem within_eq (n a b:Int):impl_within n a b=some (decide (a≤n∧n≤b)):=by
 unfold impl_within
 rw [Bool.decide_and]
theorem in_eq (n a b:Int):spec_l00In n a b=some (decide (a≤n∧n≤b)):=by
 unfold spec_l00In
 rw [Bool.decide_and]
theorem name_step (s:ByteArray) (i:Int):impl_IsName_l4 s i=spec_l01Name_l4 s i:=by
 unfold impl_IsName_l4 spec_l01Name_l4
 by_cases c:i< (s.size:Int)
 ·rw [if_pos c,if_pos c]
  cases bt s i with
  | none=>rfl
  | some x=>
   have d1:decide (x≥97)=!decide (x<97):=by rw [←decide_not];exact decide_eq_decide.2 (by omega)
   have d2:decide (x≤122)=!decide (x>122):=by rw [←decide_not];exact decide_eq_decide.2 (by omega)
   have d3:decide (x≥48)=!decide (x<48):=by rw [←decide_not];exact decide_eq_decide.2 (by omega)
   have d4:decide (x≤57)=!decide (x>57):=by rw [←decide_not];exact decide_eq_decide.2 (by omega)
   simp only [Option.bind_some,spec_l01Small,spec_l01Digit,d1,d2,d3,d4]
   by_cases c1:x<97<;>by_cases c2:x>122<;>by_cases c3:x<48<;>by_cases c4:x>57<;>simp [c1,c2,c3,c4]
 ·rw [if_neg c,if_neg c]
theorem name_eq (s:ByteArray):∃v,spec_l01Name s=some v∧impl_IsName s=some v:=by
 unfold spec_l01Name impl_IsName
 by_cases c0:s.size=0
 ·have hs:=size_zero c0
  refine ⟨false,?_,?_⟩
  ·rw [if_pos hs];rfl
  ·rw [if_pos (by omega)];rfl
 ·have hs:¬s=⟨#[]⟩:=fun h=>c0 (by rw [h];rfl)
  rw [if_neg hs,if_neg (show ¬((s.size:Int) <1) by omega)]
  by_cases c1:(s.size:Int) >10
  ·rw [if_pos c1,if_pos c1]
   exact ⟨false,rfl,rfl⟩
  ·rw [if_neg c1,if_neg c1]
   obtain ⟨b,hb,hb1,hb2⟩:=bt_some (s:=s) (i:=0) (by omega)
   have hb':bt s 0=some b:=hb
   rw [hb']
   have hloop:∃o,loopO (spec_l01Name_l4 s) 0=some o:=by
    refine scanEnds s.size (by omega) (fun i hi=>?_) ⟨.inl (),?_⟩
    ·obtain ⟨x,hx,_⟩:=bt_some (s:=s) hi
     unfold spec_l01Name_l4
     rw [if_pos (by omega),hx]
     simp only [Option.bind_some,spec_l01Small,spec_l01Digit]
     split
     ·simp
     ·simp only [Option.bind_some]
      split
      ·exact .inr ⟨_,rfl⟩
      ·exact .inl rfl
    ·unfold spec_l01Name_l4
     rw [if_neg (by omega)]
   obtain ⟨o,ho⟩:=hloop
   have ho2:loopO (impl_IsName_l4 s) 0=some o:=by rw [loopO_congr (name_step s)];exact ho
   rw [ho,ho2]
   have e:(if b<97 then some true else some (decide (b>122)))=some (!(decide (b≥97)&&decide (b≤122))):=by
    have d1:decide (b≥97)=!decide (b<97):=by rw [←decide_not];exact decide_eq_decide.2 (by omega)
    have d2:decide (b≤122)=!decide (b>122):=by rw [←decide_not];exact decide_eq_decide.2 (by omega)
    rw [d1,d2]
    by_cases c2:b<97<;>by_cases c3:b>122<;>simp [c2,c3]
   simp only [Option.bind_some,spec_l01Small]
   rw [e]
   simp only [Option.bind_some]
   split
   ·exact ⟨false,rfl,rfl⟩
   ·cases o with
    | inl u=>exact ⟨true,rfl,rfl⟩
    | inr r=>exact ⟨r,rfl,rfl⟩
theorem name_some (s:ByteArray):∃v,impl_IsName s=some v:=by
 obtain ⟨v,_,h⟩:=name_eq s
 exact ⟨v,h⟩
theorem apd1 {l:List Int} {x:Int} (h:l.length≤1000000):apd 8 l [x]=some (l++[x]):=by
 unfold apd
 rw [if_pos (by simp;omega)]
theorem apd0 {l:List Int} (h:l.length≤1000000):apd 8 ([]:List Int) l=some l:=by
 unfold apd
 rw [if_pos (by simp;omega)]
 rfl
theorem has_spec (l:List Int) (n:Int) (hl:l.length≤1048576):spec_l00Has l n=some (decide (n∈l)):=by
 unfold spec_l00Has
 rcases scanAll (f:=spec_l00Has_l2 l n) l (fun x=>!decide (x=n)) (fun _=>true) (by omega) (fun i hi=>by
  unfold spec_l00Has_l2
  rw [if_pos (by omega),rd_lt hi,Option.bind_some]
  by_cases c:l[i]=n<;>simp [c]) (by unfold spec_l00Has_l2;rw [if_neg (by omega)]) with ⟨h1,h2⟩ | ⟨h1,i,hi,h2⟩
 ·rw [h2]
  have:¬n∈l:=fun h=>by
   have:=List.all_eq_true.1 h1 n h
   simp at this
  simp [this]
 ·rw [h2]
  have:n∈l:=by
   rw [List.all_eq_false] at h1
   obtain ⟨x,hx,h⟩:=h1
   simp at h
   exact h ▸ hx
  simp [this]
theorem has_impl (l:List Int) (n:Int) (hl:l.length≤1048576):slices_Contains_int64_int64 l n=some (decide (n∈l)):=by
 unfold slices_Contains_int64_int64 slices_Index_int64_int64
 rcases scanAll (f:=slices_Index_int64_int64_l2 l n) l (fun x=>!decide (n=x)) (fun i=>(i:Int)) (by omega) (fun i hi=>by
  unfold slices_Index_int64_int64_l2
  rw [if_pos (by omega),rd_lt hi,Option.bind_some]
  by_cases c:n=l[i]<;>simp [c]) (by unfold slices_Index_int64_int64_l2;rw [if_neg (by omega)]) with ⟨h1,h2⟩ | ⟨h1,i,hi,h2⟩
 ·rw [h2]
  have:¬n∈l:=fun h=>by
   have:=List.all_eq_true.1 h1 n h
   simp at this
  simp [this]
 ·rw [h2]
  have:n∈l:=by
   rw [List.all_eq_false] at h1
   obtain ⟨x,hx,h⟩:=h1
   simp at h
   exact h ▸ hx
  simp [this]
def Fe (f:S_Feature):Prop:=f.Values.length=6∧∀x∈f.Values,0≤x∧x≤255
theorem feat_some (f:S_Feature):∃v:Bool,impl_ValidFeature f=some v∧(v=true→Fe f):=by
 obtain ⟨n,n1⟩:=name_some f.Id
 unfold impl_ValidFeature Fe
 rw [n1]
 cases n with
 | false=>exact ⟨false,rfl,fun h=>by cases h⟩
 | true=>
  simp only [Option.bind_some,if_true]
  by_cases c:(f.Values.length:Int)=6
  ·rw [if_pos c]
   unfold slices_ContainsFunc_int64_int64 slices_IndexFunc_int64_int64
   rcases scanFind (f:=slices_IndexFunc_int64_int64_l2 (fun a0=>impl_ValidFeature_c1 a0) f.Values) f.Values (fun x=>!decide (0≤x∧x≤255)) (fun i=>(i:Int)) (by omega) (fun i hi=>by
    unfold slices_IndexFunc_int64_int64_l2 impl_ValidFeature_c1
    rw [if_pos (by omega),rd_lt hi]
    simp only [Option.bind_some,within_eq]) (by
    unfold slices_IndexFunc_int64_int64_l2
    rw [if_neg (by omega)]) with ⟨q1,q2⟩ | ⟨i,hi,q1,_,q2⟩
   ·rw [q2]
    refine ⟨true,rfl,fun _=>⟨by omega,fun x hx=>?_⟩⟩
    have:=q1 x hx
    simpa using this
   ·rw [q2]
    refine ⟨false,?_,fun h=>by cases h⟩
    simp
  ·rw [if_neg c]
   exact ⟨false,rfl,fun h=>by cases h⟩
theorem feats_some (l:List S_Feature) (hl:l.length≤1048576):∃v:Bool,impl_ValidFeatures l=some v∧(v=true→l.length≤16∧∀f∈l,Fe f):=by
 unfold impl_ValidFeatures
 rcases validL (f:=impl_ValidFeatures_l2 l) l Fe (by omega) (fun i hi=>by
  obtain ⟨v,v1,v2⟩:=feat_some l[i]
  unfold impl_ValidFeatures_l2
  rw [if_pos (by omega),rd_lt hi,Option.bind_some,v1,Option.bind_some]
  cases v with
  | false=>exact .inr rfl
  | true=>
   rw [if_pos rfl]
   by_cases c0:(i:Int) >0
   ·rw [if_pos c0,w64_pred (by omega) (by omega),rd_lt (show i - 1<l.length by omega)]
    simp only [Option.bind_some]
    cases Op.bytesLess (l[i - 1]'(by omega)).Id.toList l[i].Id.toList with
    | true=>exact .inl ⟨rfl,v2 rfl⟩
    | false=>exact .inr rfl
   ·rw [if_neg c0]
    exact .inl ⟨rfl,v2 rfl⟩) (by
  unfold impl_ValidFeatures_l2
  rw [if_neg (by omega)]) with ⟨q1,q2⟩ | q
 ·rw [q1]
  refine ⟨_,rfl,fun h=>⟨?_,q2⟩⟩
  have:=of_decide_eq_true h
  omega
 ·rw [q]
  exact ⟨false,rfl,fun h=>by cases h⟩
noncomputable def D (a b:S_Feature):Int:=(impl_featureDistance a b).getD 0
theorem dist_eq {a b:S_Feature} (ha:Fe a) (hb:Fe b):impl_featureDistance a b=some (D a b)∧0≤D a b∧D a b≤1530:=by
 obtain ⟨a1,a2⟩:=ha
 obtain ⟨b1,b2⟩:=hb
 have lz:(a.Values.zip b.Values).length=6:=by rw [List.length_zip];omega
 obtain ⟨q1,q2,q3⟩:=loop_sum (f:=impl_featureDistance_l3 a b) (a.Values.zip b.Values) (fun p=>max2 (p.1 - p.2) (0 - (p.1 - p.2))) 255 (by omega) (by omega) (fun p hp=>by
  have h1:=a2 _ (List.of_mem_zip hp).1
  have h2:=b2 _ (List.of_mem_zip hp).2
  have:=max2_cases (p.1 - p.2) (0 - (p.1 - p.2))
  constructor<;>omega) (fun s i hi=>by
  have hia:i<a.Values.length:=by omega
  have hib:i<b.Values.length:=by omega
  have h1:=a2 _ (List.getElem_mem hia)
  have h2:=b2 _ (List.getElem_mem hib)
  unfold impl_featureDistance_l3 impl_absolute
  simp only
  have w1:w64 (a.Values[i] - b.Values[i])=a.Values[i] - b.Values[i]:=w64_id (by omega) (by omega)
  have w2:w64 (0 - (a.Values[i] - b.Values[i]))=0 - (a.Values[i] - b.Values[i]):=w64_id (by omega) (by omega)
  rw [if_pos (by omega),rd_lt hia,Option.bind_some,rd_lt hib,Option.bind_some,w1,Option.bind_some,w2,List.getElem_zip]) (fun s=>by
  unfold impl_featureDistance_l3
  simp only
  rw [if_neg (by omega)])
 have e:impl_featureDistance a b=some (((a.Values.zip b.Values).map fun p=>max2 (p.1 - p.2) (0 - (p.1 - p.2))).sum):=by
  unfold impl_featureDistance
  rw [q1]
  rfl
 unfold D
 rw [e]
 exact ⟨rfl,q2,by show _≤_;simp only [Option.getD_some];omega⟩
section
variable {T S:List S_Feature}
def d0:S_Feature:=⟨⟨#[]⟩,[]⟩
noncomputable def dk (T S:List S_Feature) (i:Nat) (k:Int):Int:=D (T.getD i d0) (S.getD k.toNat d0)
noncomputable def sc (T S:List S_Feature):List Int→Nat→Int
 | [],_=>0
 | k::F,i=>dk T S i k+sc T S F (i+1)
theorem sc_app (F R:List Int):∀i,sc T S (F++R) i=sc T S F i+sc T S R (i+F.length):=by
 induction F with
 | nil=>intro i;simp [sc]
 | cons k F ih=>
  intro i
  simp only [List.cons_append,sc,ih,List.length_cons]
  rw [show i+1+F.length=i+(F.length+1) by omega]
  omega
def Va (S:List S_Feature) (F:List Int):Prop:=(∀k∈F,0≤k∧k<S.length)∧F.Nodup
def Full (T S:List S_Feature) (M:List Int):Prop:=Va S M∧M.length=T.length
theorem dk_num (hT:∀f∈T,Fe f) (hS:∀f∈S,Fe f) {i:Nat} {k:Int} (hi:i<T.length) (h0:0≤k) (h1:k<S.length):
 rd T (i:Int)=some (T.getD i d0)∧rd S k=some (S.getD k.toNat d0)∧impl_featureDistance (T.getD i d0) (S.getD k.toNat d0)=some (dk T S i k)∧0≤dk T S i k∧dk T S i k≤1530:=by
 have hk:k.toNat<S.length:=by omega
 have e1:T.getD i d0=T[i]:=by rw [List.getD_eq_getElem?_getD,List.getElem?_eq_getElem hi];rfl
 have e2:S.getD k.toNat d0=S[k.toNat]:=by rw [List.getD_eq_getElem?_getD,List.getElem?_eq_getElem hk];rfl
 obtain ⟨q1,q2,q3⟩:=dist_eq (hT _ (List.getElem_mem hi)) (hS _ (List.getElem_mem hk))
 refine ⟨rd_getD d0 hi,?_,?_,?_,?_⟩
 ·have:=rd_getD (L:=S) d0 hk
  rwa [Int.toNat_of_nonneg h0] at this
 ·unfold dk;rw [e1,e2];exact q1
 ·unfold dk;rw [e1,e2];exact q2
 ·unfold dk;rw [e1,e2];exact q3
theorem sc_num (hT:∀f∈T,Fe f) (hS:∀f∈S,Fe f):∀(F:List Int) (i:Nat),i+F.length≤T.length→(∀k∈F,0≤k∧k<S.length)→0≤sc T S F i∧sc T S F i≤1530*F.length:=by
 intro F
 induction F with
 | nil=>intro i _ _;simp [sc]
 | cons k F ih=>
  intro i hi hv
  simp only [List.length_cons] at hi ⊢
  obtain ⟨h0,h1⟩:=hv k List.mem_cons_self
  obtain ⟨_,_,_,d1,d2⟩:=dk_num hT hS (i:=i) (by omega) h0 h1
  have:=ih (i+1) (by omega) (fun k hk=>hv k (List.mem_cons_of_mem _ hk))
  simp only [sc]
  omega
abbrev FI:=(S_matchSearch×List Int×Int)→Option (Bool×S_matchSearch)
theorem fs_impl (x:S_matchSearch) (F:List Int) (a:Int):Fs (fun self:FI=>impl_matchSearch_run_F self x F a):=by
 unfold impl_matchSearch_run_F
 refine Fs.ite (Fs.const _) (Fs.bind (Fs.loop (fun s=>?_) _) fun o=>Fs.const _)
 obtain ⟨a1,a2,a3,a4,a5,a6,a7⟩:=s
 unfold impl_matchSearch_run_l5 impl_matchSearch_run_k15
 exact Fs.ite (Fs.bind (Fs.const _) fun _=>Fs.bind (Fs.const _) fun _=>Fs.ite (Fs.const _) (Fs.bind (Fs.const _) fun _=>Fs.bind (Fs.const _) fun _=>Fs.ite (Fs.const _) (Fs.ite (Fs.const _) (Fs.bind (Fs.const _) fun _=>Fs.bind (Fs.const _) fun _=>Fs.bind (Fs.app _) fun z=>Fs.ite (Fs.const _) (Fs.const _))))) (Fs.const _)
noncomputable abbrev SI:FI:=fun s=>impl_matchSearch_run s.1 s.2.1 s.2.2
theorem ma_implE (x:S_matchSearch) (F:List Int) (a:Int):impl_matchSearch_run x F a=impl_matchSearch_run_F SI x F a:=by
 show fixO _ _=_
 rw [fixO_eq]
 ·rfl
 ·rintro ⟨x,F,a⟩
  exact fs_impl x F a
def Bs (T S:List S_Feature) (found:Bool) (best:List Int) (least:Int):Prop:=found=true→Full T S best∧sc T S best 0=least
theorem ma_run (hT:∀f∈T,Fe f) (hS:∀f∈S,Fe f) (hTl:T.length≤16) (hSl:S.length≤16) (hTS:T.length≤S.length):
 ∀(d:Nat) (F:List Int) (left:Int) (found:Bool) (best:List Int) (least:Int),F.length+d=T.length→Va S F→0≤left→left≤20000→Bs T S found best least→(found=true→sc T S F 0≤least)→
  ∃spent s',impl_matchSearch_run ⟨T,S,left,found,best,least⟩ F (sc T S F 0)=some (spent,s')∧
   (spent=false→∃left' best' least',s'=⟨T,S,left',true,best',least'⟩∧0≤left'∧left'≤20000∧Bs T S true best' least'∧(found=true→least'≤least)∧∀R,Full T S (F++R)→least'≤sc T S (F++R) 0):=by
 intro d
 induction d with
 | zero=>
  intro F left found best least hF hV h0 h1 hB hlt
  refine ⟨false,⟨T,S,left,true,F,sc T S F 0⟩,?_,fun _=>?_⟩
  ·rw [ma_implE]
   unfold impl_matchSearch_run_F
   rw [if_pos (show (F.length:Int)=(T.length:Int) by omega)]
  ·refine ⟨left,F,sc T S F 0,rfl,h0,h1,fun _=>⟨⟨hV,by omega⟩,rfl⟩,hlt,fun R hR=>?_⟩
   ·have:R=[]:=by
     have:=hR.2
     rw [List.length_append] at this
     exact List.length_eq_zero_iff.1 (by omega)
    rw [this,List.append_nil]
    exact Int.le_refl _
 | succ d ih=>
  intro F left found best least hF hV h0 h1 hB hlt
  have hFT:F.length<T.length:=by omega
  have key:∀(m k:Nat) (left:Int) (found:Bool) (best:List Int) (least:Int),k+m=S.length→(found=true∨∀i:Nat,i<k→(i:Int)∈F)→0≤left→left≤20000→Bs T S found best least→
   (∀(j:Nat) R,j<k→Full T S (F++(j:Int)::R)→found=true∧least≤sc T S (F++(j:Int)::R) 0)→∀(s0:S_matchSearch),s0.stock=S→
   (∃left' best' least',loopO (impl_matchSearch_run_l5 SI F s0 (sc T S F 0)) ((k:Int),T,S,left,found,best,least)=some (.inl (T,S,left',true,best',least'))∧0≤left'∧left'≤20000∧Bs T S true best' least'∧(found=true→least'≤least)∧
     ∀R,Full T S (F++R)→least'≤sc T S (F++R) 0)∨
   (∃t',loopO (impl_matchSearch_run_l5 SI F s0 (sc T S F 0)) ((k:Int),T,S,left,found,best,least)=some (.inr (true,t'))):=by
   intro m
   induction m with
   | zero=>
    intro k left found best least hk hq h0 h1 hB hC s0 hs0
    have hq':found=true:=by
     rcases hq with hq | hq
     ·exact hq
     ·have:=pig k F hq
      omega
    subst hq'
    refine .inl ⟨left,best,least,loopO_done ?_,h0,h1,hB,fun _=>Int.le_refl _,fun R hR=>?_⟩
    ·unfold impl_matchSearch_run_l5
     simp only
     rw [if_neg (by rw [hs0];omega)]
    ·cases R with
     | nil=>
      have:=hR.2
      rw [List.append_nil] at this
      omega
     | cons r R=>
      obtain ⟨r0,r1⟩:=hR.1.1 r (by simp)
      have e:r=((r.toNat:Nat):Int):=by omega
      rw [e] at hR ⊢
      exact (hC r.toNat R (by omega) hR).2
   | succ m ihm=>
    intro k left found best least hk hq h0 h1 hB hC s0 hs0
    have hk':k<S.length:=by omega
    have wk:w64 ((k:Int)+1)=((k+1:Nat):Int):=w64_succ (by omega)
    obtain ⟨rT,rS,dd,n0,n1⟩:=dk_num hT hS (i:=F.length) (k:=(k:Int)) hFT (by omega) (by omega)
    obtain ⟨s1,s2⟩:=sc_num hT hS F 0 (by omega) hV.1
    have esum:sc T S (F++[(k:Int)]) 0=sc T S F 0+dk T S F.length (k:Int):=by
     rw [sc_app]
     simp [sc]
    have ew:w64 (sc T S F 0+dk T S F.length (k:Int))=sc T S (F++[(k:Int)]) 0:=by
     rw [esum]
     exact w64_id (by omega) (by omega)
    have I0:impl_matchSearch_run_l5 SI F s0 (sc T S F 0) ((k:Int),T,S,left,found,best,least)=if decide ((k:Int)∈F)=true then some (.inl (((k+1:Nat):Int),T,S,left,found,best,least)) else
     (if (found=true∧sc T S (F++[(k:Int)]) 0≥least) then some (.inl (((k+1:Nat):Int),T,S,left,found,best,least)) else
      (if left=0 then some (.inr (.inr (true,⟨T,S,left,found,best,least⟩))) else
       ((SI (⟨T,S,w64 (left - 1),found,best,least⟩,F++[(k:Int)],sc T S (F++[(k:Int)]) 0)).bind fun x85=>if x85.1=true then some (.inr (.inr (true,x85.2))) else
         some (.inl (((k+1:Nat):Int),x85.2.targets,x85.2.stock,x85.2.left,x85.2.found,x85.2.best,x85.2.least))))):=by
     unfold impl_matchSearch_run_l5 impl_matchSearch_run_k15
     simp only
     rw [hs0,if_pos (by omega),rS,Option.bind_some,has_impl _ _ (by omega),Option.bind_some,rT,Option.bind_some,dd,Option.bind_some,ew,apd0 (by omega),Option.bind_some,apd1 (by omega),Option.bind_some,wk]
    have later:∀(found':Bool) (least':Int),(∀R,Full T S (F++(k:Int)::R)→found'=true∧least'≤sc T S (F++(k:Int)::R) 0)→(found=true→found'=true∧least'≤least)→
     ∀(j:Nat) R,j<k+1→Full T S (F++(j:Int)::R)→found'=true∧least'≤sc T S (F++(j:Int)::R) 0:=by
     intro found' least' hk1 hle j R hj hR
     by_cases e:j=k
     ·subst e;exact hk1 R hR
     ·obtain ⟨q1,q2⟩:=hC j R (by omega) hR
      obtain ⟨q3,q4⟩:=hle q1
      exact ⟨q3,by omega⟩
    by_cases c0:(k:Int)∈F
    ·rw [if_pos (decide_eq_true c0)] at I0
     rw [loopO_next I0]
     refine ihm (k+1) left found best least (by omega) (hq.imp_right fun hq i hi=>?_) h0 h1 hB (later found least (fun R hR=>?_) (fun h=>⟨h,Int.le_refl _⟩)) s0 hs0
     ·by_cases e:i=k
      ·rw [e];exact c0
      ·exact hq i (by omega)
     ·have:=hR.1.2
      rw [List.nodup_append] at this
      exact absurd rfl (this.2.2 _ c0 _ List.mem_cons_self)
    ·rw [if_neg (by simpa using c0)] at I0
     have hV':Va S (F++[(k:Int)]):=by
      refine ⟨fun j hj=>?_,?_⟩
      ·rcases List.mem_append.1 hj with hj | hj
       ·exact hV.1 j hj
       ·rw [List.mem_singleton] at hj;subst hj;omega
      ·rw [List.nodup_append]
       refine ⟨hV.2,by simp,fun a ha b hb e=>?_⟩
       rw [List.mem_singleton] at hb
       subst hb
       exact c0 (e ▸ ha)
     have ext:∀R,F++(k:Int)::R=(F++[(k:Int)])++R:=fun R=>by simp
     have mono:∀R,Full T S (F++(k:Int)::R)→sc T S (F++[(k:Int)]) 0≤sc T S (F++(k:Int)::R) 0:=by
      intro R hR
      rw [ext R] at hR ⊢
      have:=sc_app (T:=T) (S:=S) (F++[(k:Int)]) R 0
      have:=(sc_num hT hS R (0+(F++[(k:Int)]).length) (by have:=hR.2;rw [List.length_append] at this;omega) (fun j hj=>hR.1.1 j (List.mem_append_right _ hj))).1
      omega
     by_cases c1:found=true∧sc T S (F++[(k:Int)]) 0≥least
     ·rw [if_pos c1] at I0
      rw [loopO_next I0]
      refine ihm (k+1) left found best least (by omega) (.inl c1.1) h0 h1 hB (later found least (fun R hR=>?_) (fun h=>⟨h,Int.le_refl _⟩)) s0 hs0
      have:=mono R hR
      exact ⟨c1.1,by omega⟩
     ·rw [if_neg c1] at I0
      by_cases c2:left=0
      ·rw [if_pos c2] at I0
       exact .inr ⟨_,loopO_done I0⟩
      ·rw [if_neg c2,w64_id (n:=left - 1) (by omega) (by omega)] at I0
       obtain ⟨spent,s',r1,r2⟩:=ih (F++[(k:Int)]) (left - 1) found best least (by simp;omega) hV' (by omega) (by omega) hB (fun h=>by have:=c1;simp only [h,true_and] at this;omega)
       have r1':SI (⟨T,S,left - 1,found,best,least⟩,F++[(k:Int)],sc T S (F++[(k:Int)]) 0)=some (spent,s'):=r1
       rw [r1',Option.bind_some] at I0
       cases spent with
       | true=>
        rw [if_pos rfl] at I0
        exact .inr ⟨_,loopO_done I0⟩
       | false=>
        obtain ⟨left',best',least',rfl,g0,g1,g2,g3,g4⟩:=r2 rfl
        rw [if_neg (by simp)] at I0
        rw [loopO_next I0]
        rcases ihm (k+1) left' true best' least' (by omega) (.inl rfl) g0 g1 g2 (later true least' (fun R hR=>⟨rfl,by rw [ext R] at hR ⊢;exact g4 R hR⟩) (fun h=>⟨rfl,g3 h⟩)) s0 hs0 with ⟨l2,b2,t2,q1,q2,q3,q4,q5,q6⟩ | q
        ·exact .inl ⟨l2,b2,t2,q1,q2,q3,q4,fun h=>by have:=q5 rfl;have:=g3 h;omega,q6⟩
        ·exact .inr q
  have hne:¬(F.length:Int)=(T.length:Int):=by omega
  rcases key S.length 0 left found best least (by omega) (.inr fun i hi=>by omega) h0 h1 hB (fun j R hj=>by omega) ⟨T,S,left,found,best,least⟩ rfl with ⟨l2,b2,t2,q1,q2,q3,q4,q5,q6⟩ | ⟨t',q⟩
  ·have q1':loopO (impl_matchSearch_run_l5 SI F ⟨T,S,left,found,best,least⟩ (sc T S F 0)) (0,T,S,left,found,best,least)=some (.inl (T,S,l2,true,b2,t2)):=q1
   refine ⟨false,⟨T,S,l2,true,b2,t2⟩,?_,fun _=>⟨l2,b2,t2,rfl,q2,q3,q4,q5,q6⟩⟩
   rw [ma_implE]
   unfold impl_matchSearch_run_F
   rw [if_neg hne]
   simp only [q1',Option.bind_some]
  ·have q1':loopO (impl_matchSearch_run_l5 SI F ⟨T,S,left,found,best,least⟩ (sc T S F 0)) (0,T,S,left,found,best,least)=some (.inr (true,t')):=q
   refine ⟨true,t',?_,fun h=>by cases h⟩
   rw [ma_implE]
   unfold impl_matchSearch_run_F
   rw [if_neg hne]
   simp only [q1',Option.bind_some]
theorem one_eq (f:S_Feature):spec_l26One f=impl_ValidFeature f:=by
 obtain ⟨n,n1,n2⟩:=name_eq f.Id
 unfold spec_l26One impl_ValidFeature
 rw [n1,n2]
 cases n with
 | false=>simp
 | true=>
  simp only [Option.bind_some,if_true]
  by_cases c:(f.Values.length:Int)=6
  ·rw [if_pos c,if_neg (by simp [c])]
   unfold slices_ContainsFunc_int64_int64 slices_IndexFunc_int64_int64
   have hi:((∀x∈f.Values,(!decide (0≤x∧x≤255))=false)∧loopO (slices_IndexFunc_int64_int64_l2 (fun a0=>impl_ValidFeature_c1 a0) f.Values) 0=some (.inl ()))∨(∃i:Nat,∃h:i<f.Values.length,(!decide (0≤f.Values[i]∧f.Values[i]≤255))=true∧loopO (slices_IndexFunc_int64_int64_l2 (fun a0=>impl_ValidFeature_c1 a0) f.Values) 0=some (.inr (i:Int))):=by
    rcases scanFind (f:=slices_IndexFunc_int64_int64_l2 (fun a0=>impl_ValidFeature_c1 a0) f.Values) f.Values (fun x=>!decide (0≤x∧x≤255)) (fun i=>(i:Int)) (by omega) (fun i hi=>by
     unfold slices_IndexFunc_int64_int64_l2 impl_ValidFeature_c1
     rw [if_pos (by omega),rd_lt hi]
     simp only [Option.bind_some,within_eq]) (by
     unfold slices_IndexFunc_int64_int64_l2
     rw [if_neg (by omega)]) with ⟨q1,q2⟩ | ⟨i,hi,q1,_,q2⟩
    ·exact .inl ⟨q1,q2⟩
    ·exact .inr ⟨i,hi,q1,q2⟩
   rcases scanFind (f:=spec_l26One_l4 f) f.Values (fun x=>!decide (0≤x∧x≤255)) (fun _=>false) (by omega) (fun i hi=>by
    unfold spec_l26One_l4
    rw [if_pos (by omega),rd_lt hi,Option.bind_some,in_eq,Option.bind_some]
    cases hd:decide (0≤f.Values[i]∧f.Values[i]≤255)<;>rfl) (by
    unfold spec_l26One_l4
    rw [if_neg (by omega)]) with ⟨p1,p2⟩ | ⟨i,hi',p1,_,p2⟩
   ·rw [p2]
    rcases hi with ⟨q1,q2⟩ | ⟨i,hi,q1,q2⟩
    ·rw [q2]
     rfl
    ·have:=p1 _ (List.getElem_mem hi)
     rw [q1] at this
     cases this
   ·rw [p2]
    rcases hi with ⟨q1,q2⟩ | ⟨j,hj,q1,q2⟩
    ·have:=q1 _ (List.getElem_mem hi')
     rw [p1] at this
     cases this
    ·rw [q2]
     simp
  ·rw [if_neg c,if_pos (.inr c)]
   rfl
theorem ok_eq (l:List S_Feature):spec_l26Ok l=impl_ValidFeatures l:=by
 have e:spec_l26Ok_l2 l=impl_ValidFeatures_l2 l:=by
  funext i
  unfold spec_l26Ok_l2 impl_ValidFeatures_l2
  by_cases c:i< (l.length:Int)
  ·rw [if_pos c,if_pos c]
   cases h:rd l i with
   | none=>rfl
   | some x=>simp only [Option.bind_some,one_eq]
  ·rw [if_neg c,if_neg c]
 unfold spec_l26Ok impl_ValidFeatures
 rw [e]
theorem max_eq (a b:Int):spec_l00Max a b=some (max2 a b):=by
 unfold spec_l00Max max2
 by_cases c:a>b
 ·rw [if_pos c,if_neg (by omega)]
 ·rw [if_neg c]
  by_cases d:b>a
  ·rw [if_pos d]
  ·rw [if_neg d,show a=b by omega]
theorem away_eq {a b:S_Feature} (ha:Fe a) (hb:Fe b):spec_l26Away a b=some (D a b):=by
 have hD:=(dist_eq ha hb).1
 obtain ⟨a1,a2⟩:=ha
 obtain ⟨b1,b2⟩:=hb
 have lz:(a.Values.zip b.Values).length=6:=by rw [List.length_zip];omega
 have hz:∀p∈a.Values.zip b.Values,0≤max2 (p.1 - p.2) (0 - (p.1 - p.2))∧max2 (p.1 - p.2) (0 - (p.1 - p.2))≤255:=fun p hp=>by
  have h1:=a2 _ (List.of_mem_zip hp).1
  have h2:=b2 _ (List.of_mem_zip hp).2
  have:=max2_cases (p.1 - p.2) (0 - (p.1 - p.2))
  constructor<;>omega
 obtain ⟨q1,_,_⟩:=loop_sum (f:=impl_featureDistance_l3 a b) (a.Values.zip b.Values) (fun p=>max2 (p.1 - p.2) (0 - (p.1 - p.2))) 255 (by omega) (by omega) hz (fun s i hi=>by
  have hia:i<a.Values.length:=by omega
  have hib:i<b.Values.length:=by omega
  have h1:=a2 _ (List.getElem_mem hia)
  have h2:=b2 _ (List.getElem_mem hib)
  unfold impl_featureDistance_l3 impl_absolute
  simp only
  have w1:w64 (a.Values[i] - b.Values[i])=a.Values[i] - b.Values[i]:=w64_id (by omega) (by omega)
  have w2:w64 (0 - (a.Values[i] - b.Values[i]))=0 - (a.Values[i] - b.Values[i]):=w64_id (by omega) (by omega)
  rw [if_pos (by omega),rd_lt hia,Option.bind_some,rd_lt hib,Option.bind_some,w1,Option.bind_some,w2,List.getElem_zip]) (fun s=>by
  unfold impl_featureDistance_l3
  simp only
  rw [if_neg (by omega)])
 obtain ⟨p1,_,_⟩:=loop_sum (f:=spec_l26Away_l3 a b) (a.Values.zip b.Values) (fun p=>max2 (p.1 - p.2) (0 - (p.1 - p.2))) 255 (by omega) (by omega) hz (fun s i hi=>by
  have hia:i<a.Values.length:=by omega
  have hib:i<b.Values.length:=by omega
  have h1:=a2 _ (List.getElem_mem hia)
  have h2:=b2 _ (List.getElem_mem hib)
  unfold spec_l26Away_l3
  simp only
  have w1:w64 (a.Values[i] - b.Values[i])=a.Values[i] - b.Values[i]:=w64_id (by omega) (by omega)
  have w2:w64 (b.Values[i] - a.Values[i])=0 - (a.Values[i] - b.Values[i]):=by rw [w64_id (by omega) (by omega)];omega
  rw [if_pos (by omega),rd_lt hia,Option.bind_some,rd_lt hib,Option.bind_some,Option.bind_some,Option.bind_some,w1,w2,max_eq,Option.bind_some,List.getElem_zip]) (fun s=>by
  unfold spec_l26Away_l3
  simp only
  rw [if_neg (by omega)])
 unfold impl_featureDistance at hD
 rw [q1] at hD
 unfold spec_l26Away
 rw [p1]
 exact hD
abbrev FQ:=S_l26Search→Option S_l26Search
theorem fs_spec (x:S_l26Search):Fs (fun self:FQ=>spec_l26Search_run_F self x):=by
 unfold spec_l26Search_run_F
 refine Fs.ite (Fs.const _) (Fs.bind (Fs.loop (fun s=>?_) _) fun o=>Fs.const _)
 obtain ⟨a1,a2,a3,a4,a5,a6,a7,a8,a9,a10⟩:=s
 unfold spec_l26Search_run_l5 spec_l26Search_run_k6
 exact Fs.ite (Fs.bind (Fs.const _) fun _=>Fs.bind (Fs.const _) fun _=>Fs.bind (Fs.const _) fun _=>Fs.bind (Fs.const _) fun _=>Fs.ite (Fs.const _) (Fs.ite (Fs.const _) (Fs.bind (Fs.const _) fun _=>Fs.bind (Fs.app _) fun _=>Fs.bind (Fs.const _) fun _=>Fs.const _))) (Fs.const _)
theorem bt_specE (x:S_l26Search):spec_l26Search_run x=spec_l26Search_run_F spec_l26Search_run x:=by
 show fixO _ _=_
 rw [fixO_eq]
 ·rfl
 ·intro x
  exact fs_spec x
def Rl (found:Bool) (ls li:Int):Prop:=(found=false∧ls=-1)∨(found=true∧ls=li∧0≤ls)
theorem bt_run (hT:∀f∈T,Fe f) (hS:∀f∈S,Fe f) (hTl:T.length≤16) (hSl:S.length≤16) {B:Int} (hB:B≤20000):
 ∀(d:Nat) (F:List Int) (nodes:Int) (found:Bool) (best:List Int) (ls li:Int),F.length+d=T.length→(∀k∈F,0≤k∧k<S.length)→0≤nodes→nodes≤B→Rl found ls li→best.length≤16→
  ∃(r:S_l26Search) (sp:Bool) (s':S_matchSearch),spec_l26Search_run ⟨T,S,F,sc T S F 0,best,ls,nodes,B,false⟩=some r∧impl_matchSearch_run ⟨T,S,B - nodes,found,best,li⟩ F (sc T S F 0)=some (sp,s')∧
   r.targets=T∧r.stock=S∧r.chosen=F∧r.sum=sc T S F 0∧r.budget=B∧r.full=sp∧(sp=false→∃f' li',s'=⟨T,S,B - r.nodes,f',r.best,li'⟩∧Rl f' r.least li'∧0≤r.nodes∧r.nodes≤B∧r.best.length≤16):=by
 intro d
 induction d with
 | zero=>
  intro F nodes found best ls li hF hV h0 h1 hR hb
  obtain ⟨s1,s2⟩:=sc_num hT hS F 0 (by omega) hV
  refine ⟨⟨T,S,F,sc T S F 0,F,sc T S F 0,nodes,B,false⟩,false,⟨T,S,B - nodes,true,F,sc T S F 0⟩,?_,?_,rfl,rfl,rfl,rfl,rfl,rfl,fun _=>⟨true,_,rfl,.inr ⟨rfl,rfl,s1⟩,h0,h1,by show F.length≤16;omega⟩⟩
  ·rw [bt_specE]
   unfold spec_l26Search_run_F spec_l00Own
   simp only
   rw [if_pos (by omega),apd0 (by omega)]
   rfl
  ·rw [ma_implE]
   unfold impl_matchSearch_run_F
   rw [if_pos (show (F.length:Int)=(T.length:Int) by omega)]
 | succ d ih=>
  intro F nodes found best ls li hF hV h0 h1 hR hb
  have hFT:F.length<T.length:=by omega
  have key:∀(m k:Nat) (nodes:Int) (found:Bool) (best:List Int) (ls li:Int),k+m=S.length→0≤nodes→nodes≤B→Rl found ls li→best.length≤16→∀(x0:S_l26Search) (s0:S_matchSearch),x0.chosen=F→s0.stock=S→
   ∃(r:S_l26Search) (o:S_l26Search ⊕ S_l26Search) (oi:(List S_Feature×List S_Feature×Int×Bool×List Int×Int) ⊕ (Bool×S_matchSearch)),
    loopO (spec_l26Search_run_l5 spec_l26Search_run x0) ((k:Int),T,S,F,sc T S F 0,best,ls,nodes,B,false)=some o∧(o= .inl r∨o= .inr r)∧loopO (impl_matchSearch_run_l5 SI F s0 (sc T S F 0)) ((k:Int),T,S,B - nodes,found,best,li)=some oi∧
    r.targets=T∧r.stock=S∧r.chosen=F∧r.sum=sc T S F 0∧r.budget=B∧
    ((r.full=true∧∃s',oi= .inr (true,s'))∨(r.full=false∧∃f' li',oi= .inl (T,S,B - r.nodes,f',r.best,li')∧Rl f' r.least li'∧0≤r.nodes∧r.nodes≤B∧r.best.length≤16)):=by
   intro m
   induction m with
   | zero=>
    intro k nodes found best ls li hk h0 h1 hR hb x0 s0 hx hs0
    refine ⟨⟨T,S,F,sc T S F 0,best,ls,nodes,B,false⟩,.inl ⟨T,S,F,sc T S F 0,best,ls,nodes,B,false⟩,.inl (T,S,B - nodes,found,best,li),loopO_done ?_,.inl rfl,loopO_done ?_,rfl,rfl,rfl,rfl,rfl,.inr ⟨rfl,found,li,rfl,hR,h0,h1,hb⟩⟩
    ·unfold spec_l26Search_run_l5
     simp only
     rw [if_neg (by omega)]
    ·unfold impl_matchSearch_run_l5
     simp only
     rw [if_neg (by rw [hs0];omega)]
   | succ m ihm=>
    intro k nodes found best ls li hk h0 h1 hR hb x0 s0 hx hs0
    have hk':k<S.length:=by omega
    have wk:w64 ((k:Int)+1)=((k+1:Nat):Int):=w64_succ (by omega)
    obtain ⟨rT,rS,dd,n0,n1⟩:=dk_num hT hS (i:=F.length) (k:=(k:Int)) hFT (by omega) (by omega)
    have aw:spec_l26Away (T.getD F.length d0) (S.getD (k:Int).toNat d0)=some (dk T S F.length (k:Int)):=by
     have e1:T.getD F.length d0=T[F.length]:=by rw [List.getD_eq_getElem?_getD,List.getElem?_eq_getElem hFT];rfl
     have e2:S.getD (k:Int).toNat d0=S[k]:=by rw [Int.toNat_natCast,List.getD_eq_getElem?_getD,List.getElem?_eq_getElem hk'];rfl
     unfold dk
     rw [e1,e2]
     exact away_eq (hT _ (List.getElem_mem hFT)) (hS _ (List.getElem_mem hk'))
    obtain ⟨s1,s2⟩:=sc_num hT hS F 0 (by omega) hV
    have esum:sc T S (F++[(k:Int)]) 0=sc T S F 0+dk T S F.length (k:Int):=by
     rw [sc_app]
     simp [sc]
    have ew:w64 (sc T S F 0+dk T S F.length (k:Int))=sc T S (F++[(k:Int)]) 0:=by
     rw [esum]
     exact w64_id (by omega) (by omega)
    have I0:impl_matchSearch_run_l5 SI F s0 (sc T S F 0) ((k:Int),T,S,B - nodes,found,best,li)=if decide ((k:Int)∈F)=true then some (.inl (((k+1:Nat):Int),T,S,B - nodes,found,best,li)) else
     (if (found=true∧sc T S (F++[(k:Int)]) 0≥li) then some (.inl (((k+1:Nat):Int),T,S,B - nodes,found,best,li)) else
      (if B - nodes=0 then some (.inr (.inr (true,⟨T,S,B - nodes,found,best,li⟩))) else
       ((SI (⟨T,S,w64 (B - nodes - 1),found,best,li⟩,F++[(k:Int)],sc T S (F++[(k:Int)]) 0)).bind fun x85=>if x85.1=true then some (.inr (.inr (true,x85.2))) else
         some (.inl (((k+1:Nat):Int),x85.2.targets,x85.2.stock,x85.2.left,x85.2.found,x85.2.best,x85.2.least))))):=by
     unfold impl_matchSearch_run_l5 impl_matchSearch_run_k15
     simp only
     rw [hs0,if_pos (by omega),rS,Option.bind_some,has_impl _ _ (by omega),Option.bind_some,rT,Option.bind_some,dd,Option.bind_some,ew,apd0 (by omega),Option.bind_some,apd1 (by omega),Option.bind_some,wk]
    have S0:spec_l26Search_run_l5 spec_l26Search_run x0 ((k:Int),T,S,F,sc T S F 0,best,ls,nodes,B,false)=if (decide ((k:Int)∈F)=true∨(ls≥0∧sc T S (F++[(k:Int)]) 0≥ls)) then some (.inl (((k+1:Nat):Int),T,S,F,sc T S F 0,best,ls,nodes,B,false)) else
     (if nodes=B then some (.inr (.inr ⟨T,S,F,sc T S F 0,best,ls,nodes,B,true⟩)) else
       ((spec_l26Search_run ⟨T,S,F++[(k:Int)],sc T S (F++[(k:Int)]) 0,best,ls,w64 (nodes+1),B,false⟩).bind fun x125=>(slc x125.chosen 0 (F.length:Int)).bind fun x132=>
         some (.inl (((k+1:Nat):Int),x125.targets,x125.stock,((x125.chosen.take ((F.length:Int).toNat)).drop 0),(w64 (x125.sum - dk T S F.length (k:Int))),x125.best,x125.least,x125.nodes,x125.budget,x125.full)))):=by
     unfold spec_l26Search_run_l5 spec_l26Search_run_k6
     simp only
     rw [hx,if_pos ⟨by omega,by simp⟩,rT,Option.bind_some,rS,Option.bind_some,aw,Option.bind_some,has_spec _ _ (by omega),Option.bind_some,ew,apd1 (by omega),Option.bind_some,wk]
    by_cases c0:(k:Int)∈F
    ·rw [if_pos (decide_eq_true c0)] at I0
     rw [if_pos (.inl (decide_eq_true c0))] at S0
     rw [loopO_next I0,loopO_next S0]
     exact ihm (k+1) nodes found best ls li (by omega) h0 h1 hR hb x0 s0 hx hs0
    rw [if_neg (by simpa using c0)] at I0
    by_cases c1:found=true∧sc T S (F++[(k:Int)]) 0≥li
    ·rw [if_pos c1] at I0
     rw [if_pos (.inr (by
      rcases hR with ⟨q,_⟩ | ⟨_,q1,q2⟩
      ·rw [c1.1] at q;cases q
      ·exact ⟨q2,by rw [q1];exact c1.2⟩))] at S0
     rw [loopO_next I0,loopO_next S0]
     exact ihm (k+1) nodes found best ls li (by omega) h0 h1 hR hb x0 s0 hx hs0
    rw [if_neg c1] at I0
    rw [if_neg (by
     rintro (q | ⟨q1,q2⟩)
     ·exact c0 (by simpa using q)
     ·rcases hR with ⟨_,q3⟩ | ⟨q3,q4,q5⟩
      ·omega
      ·exact c1 ⟨q3,by rw [←q4];exact q2⟩)] at S0
    by_cases c2:nodes=B
    ·rw [if_pos (by omega)] at I0
     rw [if_pos c2] at S0
     exact ⟨_,_,_,loopO_done S0,.inr rfl,loopO_done I0,rfl,rfl,rfl,rfl,rfl,.inl ⟨rfl,_,rfl⟩⟩
    rw [if_neg (by omega)] at I0
    rw [if_neg c2] at S0
    have hl1:(F++[(k:Int)]).length=F.length+1:=by simp
    obtain ⟨r,sp,s',r1,r2,r3,r4,r5,r6,r7,r8,r9⟩:=ih (F++[(k:Int)]) (nodes+1) found best ls li (by omega) (by
     intro x hx
     rcases List.mem_append.1 hx with hx | hx
     ·exact hV x hx
     ·rw [List.mem_singleton] at hx
      subst hx
      exact ⟨by omega,by omega⟩) (by omega) (by omega) hR hb
    have wn:w64 (nodes+1)=nodes+1:=w64_id (by omega) (by omega)
    have wl:w64 (B - nodes - 1)=B - (nodes+1):=by rw [w64_id (by omega) (by omega)];omega
    rw [wn,r1,Option.bind_some] at S0
    have hsl:slc r.chosen 0 (F.length:Int)=some ((r.chosen.take ((F.length:Int).toNat)).drop ((0:Int).toNat)):=by
     unfold slc
     rw [if_pos ⟨by omega,by omega,by rw [r5,hl1];omega⟩]
    have ech:(r.chosen.take ((F.length:Int).toNat)).drop 0=F:=by
     rw [r5,Int.toNat_natCast,List.drop_zero,List.take_left]
    have esm:w64 (r.sum - dk T S F.length (k:Int))=sc T S F 0:=by
     rw [r6,esum,w64_id (by omega) (by omega)]
     omega
    rw [hsl,Option.bind_some,ech,esm,r3,r4,r7] at S0
    have r2':SI (⟨T,S,w64 (B - nodes - 1),found,best,li⟩,F++[(k:Int)],sc T S (F++[(k:Int)]) 0)=some (sp,s'):=by
     rw [wl];exact r2
    rw [r2',Option.bind_some] at I0
    cases hsp:sp with
    | true=>
     rw [hsp] at I0 r8
     rw [if_pos rfl] at I0
     rw [r8] at S0
     refine ⟨⟨T,S,F,sc T S F 0,r.best,r.least,r.nodes,B,true⟩,.inl ⟨T,S,F,sc T S F 0,r.best,r.least,r.nodes,B,true⟩,_,?_,.inl rfl,loopO_done I0,rfl,rfl,rfl,rfl,rfl,.inl ⟨rfl,_,rfl⟩⟩
     rw [loopO_next S0]
     refine loopO_done ?_
     unfold spec_l26Search_run_l5
     simp only
     rw [if_neg (by simp)]
    | false=>
     rw [hsp] at I0 r8
     rw [if_neg (by simp)] at I0
     rw [r8] at S0
     obtain ⟨f',li',q1,q2,q3,q4,q5⟩:=r9 hsp
     rw [q1] at I0
     rw [loopO_next I0,loopO_next S0]
     exact ihm (k+1) r.nodes f' r.best r.least li' (by omega) q3 q4 q2 q5 x0 s0 hx hs0
  obtain ⟨r,o,oi,k1,k2,k3,k4,k5,k6,k7,k8,k9⟩:=key S.length 0 nodes found best ls li (by omega) h0 h1 hR hb ⟨T,S,F,sc T S F 0,best,ls,nodes,B,false⟩ ⟨T,S,B - nodes,found,best,li⟩ rfl rfl
  have k1':loopO (spec_l26Search_run_l5 spec_l26Search_run ⟨T,S,F,sc T S F 0,best,ls,nodes,B,false⟩) (0,T,S,F,sc T S F 0,best,ls,nodes,B,false)=some o:=k1
  have k3':loopO (impl_matchSearch_run_l5 SI F ⟨T,S,B - nodes,found,best,li⟩ (sc T S F 0)) (0,T,S,B - nodes,found,best,li)=some oi:=k3
  have hspec:spec_l26Search_run ⟨T,S,F,sc T S F 0,best,ls,nodes,B,false⟩=some r:=by
   rw [bt_specE]
   unfold spec_l26Search_run_F
   simp only
   rw [if_neg (by omega),k1',Option.bind_some]
   rcases k2 with rfl | rfl<;>rfl
  have himpl:impl_matchSearch_run ⟨T,S,B - nodes,found,best,li⟩ F (sc T S F 0)=(some oi).bind fun oi=>(match oi with | .inl (a,b,c,d,e,f)=>some (false,(⟨a,b,c,d,e,f⟩:S_matchSearch)) | .inr r2=>some r2):=by
   rw [ma_implE]
   unfold impl_matchSearch_run_F
   simp only
   rw [if_neg (by omega),←k3']
   congr 1
  rcases k9 with ⟨e1,s',rfl⟩ | ⟨e1,f',li',rfl,e2,e3,e4,e5⟩
  ·exact ⟨r,true,s',hspec,himpl,k4,k5,k6,k7,k8,e1,fun h=>by cases h⟩
  ·exact ⟨r,false,_,hspec,himpl,k4,k5,k6,k7,k8,e1,fun _=>⟨f',li',rfl,e2,e3,e4,e5⟩⟩
end
theorem mk_textL:∀(n:Nat) (k:Int) (out:ByteArray),k.toNat≤n→out.size+k.toNat≤4611686018427387904→∃r,loopO laws_markText_l4 (k,out)=some r∧r.size≤out.size+k.toNat:=by
 intro n
 induction n with
 | zero=>
  intro k out h1 h2
  refine ⟨out,loopO_done ?_,by omega⟩
  unfold laws_markText_l4
  simp only
  rw [if_neg (by omega)]
 | succ n ih=>
  intro k out h1 h2
  by_cases c:k>0
  ·have e1:w64 (k.tdiv 10)=k.tdiv 10:=by
    rw [Int.tdiv_eq_ediv_of_nonneg (by omega)]
    exact w64_id (by omega) (by omega)
   have e2:k.tdiv 10=k / 10:=Int.tdiv_eq_ediv_of_nonneg (by omega)
   have hs:∀x:Int,(strOf [x]).size=1:=fun x=>rfl
   obtain ⟨r,hr,hr2⟩:=ih (k / 10) (strOf [IntKind.wrap .u8 (w64 (48+k.tmod 10))]++out) (by omega) (by rw [ByteArray.size_append,hs];omega)
   refine ⟨r,?_,?_⟩
   ·rw [loopO_next (s':=(k / 10,strOf [IntKind.wrap .u8 (w64 (48+k.tmod 10))]++out)) ?_]
    ·exact hr
    ·unfold laws_markText_l4 md dv
     simp only
     rw [if_pos c,if_neg (by decide),Option.bind_some,cat_some (by rw [hs];omega),Option.bind_some,if_neg (by decide),Option.bind_some]
     have e3:IntKind.wrap .i64 (k.tdiv 10)=k / 10:=by rw [←e2];exact e1
     rw [e3]
   ·rw [ByteArray.size_append,hs] at hr2
    omega
  ·refine ⟨out,loopO_done ?_,by omega⟩
   unfold laws_markText_l4
   simp only
   rw [if_neg c]
theorem mk_text (k:Int) (h:k≤2305843009213693952):∃r,laws_markText k=some r:=by
 unfold laws_markText
 split
 ·exact ⟨_,rfl⟩
 ·obtain ⟨r,hr,hr2⟩:=mk_textL k.toNat k ⟨#[]⟩ (Nat.le_refl _) (by show 0+_≤_;omega)
  have h0:(⟨#[]⟩:ByteArray).size=0:=rfl
  have h1:(⟨#[109]⟩:ByteArray).size=1:=rfl
  rw [hr,Option.bind_some,cat_some (by rw [h1];omega),Option.bind_some]
  exact ⟨_,rfl⟩
theorem markW {α:Type} {f:Int×Int→Option ((Int×Int) ⊕ Int)} (l:List α) (c:Nat) (K:Int) (hl:l.length<4611686018427387904)
 (h1:∀(i:Nat) (hi:i<l.length) (k:Int),0≤k→k+c≤K→∃k',k≤k'∧k'≤k+c∧f (k,(i:Int))=some (.inl (k',w64 ((i:Int)+1))))
 (h2:∀k,f (k,(l.length:Int))=some (.inr k)) {k:Int} (h0:0≤k) (hk:k+((c*l.length:Nat):Int)≤K):∃r,loopO f (k,0)=some r∧k≤r∧r≤k+((c*l.length:Nat):Int):=by
 have key:∀(n i:Nat) (k:Int),i+n=l.length→0≤k→k+((c*n:Nat):Int)≤K→∃r,loopO f (k,(i:Int))=some r∧k≤r∧r≤k+((c*n:Nat):Int):=by
  intro n
  induction n with
  | zero=>
   intro i k hi h0 hk
   obtain rfl:i=l.length:=by omega
   exact ⟨k,loopO_done (h2 k),Int.le_refl _,by omega⟩
  | succ n ih=>
   intro i k hi h0 hk
   have e:((c* (n+1):Nat):Int)=((c*n:Nat):Int)+c:=by rw [Nat.mul_succ];omega
   have hp:(0:Int)≤((c*n:Nat):Int):=by omega
   obtain ⟨k',q1,q2,q3⟩:=h1 i (by omega) k h0 (by omega)
   obtain ⟨r,r1,r2,r3⟩:=ih (i+1) k' (by omega) (by omega) (by omega)
   rw [w64_succ (by omega)] at q3
   exact ⟨r,by rw [loopO_next q3];exact r1,by omega,by omega⟩
 simpa using key l.length 0 k (by omega) h0 hk
theorem mr_mark (l:List Int) (h:l.length≤1073741824):laws_markInt64S l 1=some (1+(l.length:Int),iota 1 l.length):=by
 unfold laws_markInt64S
 rw [markInt (f:=laws_markInt64S_l2) l (k:=1) (by omega) (by omega) ?_ ?_]
 ·rfl
 ·intro k i out hi
  unfold laws_markInt64S_l2
  simp only
  rw [if_pos (by omega),rd_lt hi]
  simp
 ·intro k out
  unfold laws_markInt64S_l2
  simp
theorem mr_held (n:Nat) (h:n≤1073741824):laws_heldInt64S (iota 1 n) 1=some (1+(n:Int)):=by
 unfold laws_heldInt64S
 rw [heldInt (f:=laws_heldInt64S_l2 (iota 1 n)) (n:=n) (k:=1) (by omega) (by omega) ?_ ?_]
 ·rfl
 ·intro i hi
  unfold laws_heldInt64S_l2
  simp only
  rw [if_pos (by rw [iota_length];omega),rd_nat,iota_get _ _ _ hi]
  simp
 ·unfold laws_heldInt64S_l2
  simp [iota_length]
theorem mr_eq (l:List Int) (h:l.length≤1073741824):laws_eqInt64S l l=some true:=by
 unfold laws_eqInt64S
 rw [if_neg (by simp),eqS_refl (n:=l.length) (by omega) (fun i hi=>?_) ?_]
 ·rfl
 ·unfold laws_eqInt64S_l4
  rw [if_neg (by omega)]
 ·unfold laws_eqInt64S_l4
  rw [if_pos (by omega),rd_lt hi,Option.bind_some,Option.bind_some]
  simp
theorem bt_same {T S:List S_Feature} (hTl:T.length≤1048576) (hSl:S.length≤1048576) (B:Int):∃r s c,spec_BestMatches T S B=some (r,s,c)∧impl_BestMatches T S B=some (r,s,c)∧r.length≤16:=by
 obtain ⟨v,v1,v2⟩:=feats_some T hTl
 obtain ⟨u,u1,u2⟩:=feats_some S hSl
 unfold spec_BestMatches impl_BestMatches impl_matchesCode
 rw [ok_eq,ok_eq,v1,u1,in_eq,within_eq]
 simp only [Option.bind_some]
 cases v with
 | false=>exact ⟨[],0,1,by simp,by simp,by simp⟩
 | true=>
  cases u with
  | false=>exact ⟨[],0,1,by simp,by simp,by simp⟩
  | true=>
   obtain ⟨t1,t2⟩:=v2 rfl
   obtain ⟨s1,s2⟩:=u2 rfl
   simp only [if_true,Bool.not_true,Option.bind_some,Bool.false_eq_true,if_false]
   by_cases c:1≤B∧B≤20000
   ·rw [decide_eq_true c]
    simp only [if_true]
    by_cases c2:(T.length:Int) > (S.length:Int)
    ·rw [if_pos c2,if_pos c2]
     exact ⟨[],0,6,rfl,rfl,by simp⟩
    ·rw [if_neg c2,if_neg c2]
     obtain ⟨r,sp,s',r1,r2,r3,r4,r5,r6,r7,r8,r9⟩:=bt_run t2 s2 t1 s1 c.2 T.length [] 0 false [] (-1) 0 (by simp) (by simp) (by omega) (by omega) (.inl ⟨rfl,rfl⟩) (by simp)
     have r1':spec_l26Search_run ⟨T,S,[],0,[],-1,0,B,false⟩=some r:=r1
     have r2':impl_matchSearch_run ⟨T,S,B,false,[],0⟩ [] 0=some (sp,s'):=by
      have:impl_matchSearch_run ⟨T,S,B - 0,false,[],0⟩ [] 0=some (sp,s'):=r2
      rwa [Int.sub_zero] at this
     obtain ⟨sp2,s2',m1,m2⟩:=ma_run t2 s2 t1 s1 (by omega) T.length [] B false [] 0 (by simp) ⟨by simp,by simp⟩ (by omega) (by omega) (fun h=>by cases h) (fun h=>by cases h)
     have m1':impl_matchSearch_run ⟨T,S,B,false,[],0⟩ [] 0=some (sp2,s2'):=m1
     rw [r2'] at m1'
     cases m1'
     rw [r1',r2']
     simp only [Option.bind_some,ne_eq,not_true,if_false]
     cases hsp:sp with
     | true=>
      rw [hsp] at r8
      rw [if_pos r8]
      exact ⟨[],0,5,rfl,rfl,by simp⟩
     | false=>
      rw [hsp] at r8
      rw [if_neg (by rw [r8];simp)]
      obtain ⟨f',li',q1,q2,q3,q4,q5⟩:=r9 hsp
      obtain ⟨left',best',least',p1,_⟩:=m2 hsp
      rw [q1] at p1
      cases p1
      rcases q2 with ⟨q,_⟩ | ⟨_,q,_⟩
      ·cases q
      ·refine ⟨r.best,r.least,0,rfl,?_,q5⟩
       rw [if_neg (by simp),q1,q]
   ·rw [decide_eq_false c]
    exact ⟨[],0,2,by simp,by simp,by simp⟩
theorem bt_bd {l:List S_Feature} (h:l.length≤1048576∧∀a∈l,bd_S_Feature a):l.length≤1048576∧∀x∈l,x.Values.length≤1048576:=⟨h.1,fun x hx=>(h.2 x hx).2.1⟩
theorem bt_ints (l:List Int) (h:l.length≤1048576) {k:Int} (h0:0≤k) (hk:k≤2305843009213693952):∃r,laws_markInt64S_ws l k=some r∧k≤r∧r≤k+1048576:=by
 unfold laws_markInt64S_ws
 obtain ⟨r,r1,r2,r3⟩:=markW (f:=laws_markInt64S_ws_l2 l) l 1 2305843009214742528 (by omega) (fun i hi k h0 hk=>⟨k+1,by omega,by omega,by
  unfold laws_markInt64S_ws_l2
  simp only
  rw [if_pos (by omega),rd_lt hi,Option.bind_some,w64_id (n:=k+1) (by omega) (by omega)]⟩) (fun k=>by
  unfold laws_markInt64S_ws_l2
  simp only
  rw [if_neg (by omega)]) h0 (by omega)
 exact ⟨r,by rw [r1];rfl,r2,by omega⟩
theorem bt_feats (l:List S_Feature) (h:l.length≤1048576) (hr:∀x∈l,x.Values.length≤1048576) {k:Int} (h0:0≤k) (hk:k≤1152921504608944128):∃r,laws_markFeatureS l k=some r∧k≤r∧r≤k+1099512676352:=by
 unfold laws_markFeatureS
 obtain ⟨r,r1,r2,r3⟩:=markW (f:=laws_markFeatureS_l2 l) l 1048577 1152922604121620480 (by omega) (fun i hi k h0 hk=>by
  obtain ⟨t,ht⟩:=mk_text k (by omega)
  obtain ⟨r,r1,r2,r3⟩:=bt_ints l[i].Values (hr _ (List.getElem_mem hi)) (k:=k+1) (by omega) (by omega)
  refine ⟨r,by omega,by omega,?_⟩
  unfold laws_markFeatureS_l2
  simp only
  rw [if_pos (by omega),ht,Option.bind_some,rd_lt hi,Option.bind_some,Option.bind_some,w64_id (n:=k+1) (by omega) (by omega),r1,Option.bind_some]) (fun k=>by
  unfold laws_markFeatureS_l2
  simp only
  rw [if_neg (by omega)]) h0 (by omega)
 exact ⟨r,by rw [r1];rfl,r2,by omega⟩
theorem law_BestMatches (T S:List S_Feature) (B:Int) (wT:(∀x∈T,wf_S_Feature x)∧T.length≤maxLen) (wS:(∀x∈S,wf_S_Feature x)∧S.length≤maxLen):laws_FnExactBestMatches T S B=some true:=by
 unfold laws_FnExactBestMatches
 obtain ⟨v,v1,v2,v3⟩:=bt_szFeatureS T wT (left:=1048576) (by omega) (by omega)
 rw [v1,Option.bind_some]
 by_cases c1:v<0
 ·rw [if_pos c1]
 rw [if_neg c1]
 have hT:=v3.resolve_left c1
 obtain ⟨v',w1,w2,w3⟩:=bt_szFeatureS S wS (left:=v) (by omega) (by omega)
 rw [w1,Option.bind_some]
 by_cases c2:v'<0
 ·rw [if_pos c2]
 rw [if_neg c2]
 have hS:=w3.resolve_left c2
 obtain ⟨r,s,c,h1,h2,h3⟩:=bt_same hT.1 hS.1 B
 obtain ⟨k,k1,k2,k3⟩:=bt_feats T hT.1 (bt_bd hT).2 (k:=1) (by omega) (by omega)
 obtain ⟨k',m1,m2,m3⟩:=bt_feats S hS.1 (bt_bd hS).2 (k:=k) (by omega) (by omega)
 rw [bt_toFeatureS T hT,bt_toFeatureS S hS]
 simp only [Option.bind_some,h1,h2,mr_eq r (by omega),bt_eqFeatureS T hT,bt_eqFeatureS S hS,k1,m1,mr_mark r (by omega),mr_held r.length (by omega),not_true,ne_eq,or_self,if_false,if_true]
 rw [if_neg (show ¬k'<0 by omega)]
 simp
 rw [if_neg (by omega),if_neg (by omega)]
end Go.Pw
