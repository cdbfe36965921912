/- The plain law of FnExactFewestColours. Conditions: none. -/
import Derived.Test.YtnjgcdpleghciaaTfwT
import Derived.Test.YtnjgcdpleghciaaSimPe
import Derived.Test.YtnjgcdpleghciaaSimPn
import Derived.Test.YtnjgcdpleghciaaSimRh
namespace Go.Pw
open Go.Sim (min2 max2)
set_option linter.unusedVariables false
set_option linter.unusedSimpArgs false
theorem maxLen_eq:maxLen=9223372036854775807:=rfl
theorem awI (l:(List Int)) (h:((∀a∈l,(Lit.int .i64 a).wf=true)∧l.length≤maxLen)) {left:Int} (h0:0≤left) (h1:left≤1048576):Ev (amE l left) (fun v=>v≤left∧(v<0∨(l.length≤1048576∧∀a∈l,True))):=by
 obtain ⟨hw,hl⟩:=h
 rw [maxLen_eq] at hl
 unfold amE
 rw [alv (n:=left - (l.length:Int)) (by omega) (by omega)]
 refine Ev.ite (fun _=>Ev.ret ⟨by omega,.inl (by omega)⟩) fun c=>?_
 exact Ev.ret ⟨by omega,.inr ⟨by omega,fun a _=>trivial⟩⟩
theorem awJ (l:(List Int)) (h:(l.length≤1048576∧∀a∈l,True)):amG l=some l:=by
 have hl:=h.1
 unfold amG mkl
 rw [if_pos (by constructor<;>omega),Option.bind_some]
 rw [copyS (f:=alx l) l _ (by simp) (by omega) ?_ ?_]
 ·rfl
 ·intro i hi out ho
  unfold alx
  simp only
  rw [if_pos (by omega),akn hi,Option.bind_some,akn (by omega:i<out.length),Option.bind_some]
  simp
 ·intro out
  unfold alx
  simp
theorem awK (l:(List Int)) (h:(l.length≤1048576∧∀a∈l,True)):aka l l=some true:=by
 have hl:=h.1
 unfold aka
 rw [if_neg (by simp),awr (n:=l.length) (by omega) ?_ ?_]
 ·rfl
 ·intro i hi
  unfold ak1
  rw [if_pos (by omega),akn hi]
  simp only [Option.bind_some]
  simp
 ·unfold ak1
  rw [if_neg (by omega)]
def atK (x:aiE):Prop:=(Lit.int .i64 x.aku).wf=true∧(Lit.int .i64 x.High).wf=true∧((∀a∈x.Cells,(Lit.int .i64 a).wf=true)∧x.Cells.length≤maxLen)
def ari (x:aiE):Prop:=True∧True∧(x.Cells.length≤1048576∧∀a∈x.Cells,True)
theorem auM (n a b:Int):ame n a b=some (decide (a≤n∧n≤b)):=by
 unfold ame
 rw [Bool.decide_and]
theorem awL (l:List Int) (n:Int) (hl:l.length≤1048576):am5 l n=some (decide (n∈l)):=by
 unfold am5
 rcases aBK (f:=ama l n) l (fun x=>!decide (x=n)) (fun _=>true) (by omega) (fun i hi=>by
  unfold ama
  rw [if_pos (by omega),akn hi,Option.bind_some]
  by_cases c:l[i]=n<;>simp [c]) (by unfold ama;rw [if_neg (by omega)]) with ⟨h1,h2⟩ | ⟨h1,i,hi,h2⟩
 ·rw [h2]
  have:¬n∈l:=fun h=>by
   have:=List.all_eq_true.1 h1 n h
   simp at this
  simp [this]
 ·rw [h2]
  have:n∈l:=by
   rw [List.all_eq_false] at h1
   obtain ⟨x,hx,h⟩:=h1
   simp at h
   exact h ▸ hx
  simp [this]
theorem arK {x:Int}:∀l,x∈cmpL l↔x∈l
 | []=>Iff.rfl
 | a::t=>by
  unfold cmpL
  by_cases c:t.head? =some a
  ·rw [if_pos c,arK t,List.mem_cons]
   exact ⟨.inr,fun h=>h.elim (fun e=>by subst e;exact List.mem_of_mem_head? c) id⟩
  ·rw [if_neg c,List.mem_cons,List.mem_cons,arK t]
theorem atL:∀l,l.Pairwise (·≤·)→(cmpL l).Pairwise (· < ·)
 | [],_=>List.Pairwise.nil
 | a::t,h=>by
  obtain ⟨h1,h2⟩:=List.pairwise_cons.1 h
  unfold cmpL
  by_cases c:t.head? =some a
  ·rw [if_pos c];exact atL t h2
  ·rw [if_neg c]
   refine List.pairwise_cons.2 ⟨fun x hx=>?_,atL t h2⟩
   have hx:=(arK t).1 hx
   cases t with
   | nil=>cases hx
   | cons b t=>
    have hb:=h1 b (List.mem_cons_self ..)
    have hab:a≠b:=fun e=>c (by rw [e];rfl)
    rcases List.mem_cons.1 hx with rfl | hx
    ·omega
    ·have:=(List.pairwise_cons.1 h2).1 x hx
     omega
def nb (G:List Int):List Int:=G.foldl (fun acc x=>if x∈acc then acc else acc++[x]) []
theorem ayf (G:List Int) (x:Int):nb (G++[x])=if x∈nb G then nb G else nb G++[x]:=by
 unfold nb
 rw [List.foldl_append]
 rfl
theorem awM {p:List Int→Prop} (h0:p []) (h1:∀G x,p G→p (G++[x])):∀G,p G:=by
 intro G
 have:∀n (G:List Int),G.length=n→p G:=by
  intro n
  induction n with
  | zero=>intro G h;rw [List.eq_nil_of_length_eq_zero h];exact h0
  | succ n ih=>
   intro G h
   rcases List.eq_nil_or_concat G with rfl | ⟨L,y,rfl⟩
   ·cases h
   ·rw [List.concat_eq_append] at h ⊢
    rw [List.length_append,List.length_singleton] at h
    exact h1 L y (ih L (by omega))
 exact this G.length G rfl
theorem aAp {x:Int}:∀G,x∈nb G↔x∈G:=by
 refine awM (p:=fun G=>x∈nb G↔x∈G) Iff.rfl fun G y ih=>?_
 rw [ayf]
 by_cases c:y∈nb G
 ·rw [if_pos c,ih,List.mem_append,List.mem_singleton]
  exact ⟨.inl,fun h=>h.elim id fun e=>by subst e;exact ih.1 c⟩
 ·rw [if_neg c,List.mem_append,List.mem_append,ih]
theorem awN:∀G,(nb G).Nodup:=by
 refine awM (p:=fun G=>(nb G).Nodup) List.Pairwise.nil fun G y ih=>?_
 rw [ayf]
 by_cases c:y∈nb G
 ·rw [if_pos c];exact ih
 ·rw [if_neg c]
  exact List.nodup_append.2 ⟨ih,by simp,fun a ha b hb e=>c (by rw [List.mem_singleton] at hb;rw [←hb,←e];exact ha)⟩
def kn (G:List Int):Nat:=(nb G).length
theorem aEs (G:List Int) (n:Nat) (h:∀x∈G,0≤x∧x<n):kn G≤n:=by
 have:=ay3 (nb G) (upto n) (awN G) fun x hx=>aAo.2 (h x ((aAp G).1 hx))
 rw [awH] at this
 exact this
def pt (l:List Int) (n:Int):List Int:=l.filter (fun x=>decide (x<n))++[n]++l.filter fun x=>decide (n<x)
theorem aDh:∀(l:List Int) (n:Int),(pt l n).length≤l.length+1:=by
 intro l n
 have:(l.filter fun x=>decide (x<n)).length+(l.filter fun x=>decide (n<x)).length≤l.length:=by
  induction l with
  | nil=>simp
  | cons a l ih=>
   rw [List.filter_cons,List.filter_cons]
   by_cases c1:a<n
   ·rw [if_pos (by simpa using c1),if_neg (by simp;omega),List.length_cons,List.length_cons];omega
   ·rw [if_neg (by simpa using c1)]
    split<;>simp only [List.length_cons]<;>omega
 unfold pt
 rw [List.length_append,List.length_append,List.length_singleton]
 omega
theorem aDi {l:List Int} {n x:Int}:x∈pt l n↔x∈l∨x=n:=by
 unfold pt
 simp only [List.mem_append,List.mem_filter,List.mem_singleton,decide_eq_true_eq]
 constructor
 ·rintro ((h | h) | h)
  ·exact .inl h.1
  ·exact .inr h
  ·exact .inl h.1
 ·rintro (h | h)
  ·rcases Int.lt_trichotomy x n with c | c | c
   ·exact .inl (.inl ⟨h,c⟩)
   ·exact .inl (.inr c)
   ·exact .inr ⟨h,c⟩
  ·exact .inl (.inr h)
theorem aDj {l:List Int} {n:Int} (h:l.Pairwise (· < ·)):(pt l n).Pairwise (· < ·):=by
 unfold pt
 rw [List.pairwise_append,List.pairwise_append]
 refine ⟨⟨h.filter _,List.pairwise_singleton _ _,fun a ha b hb=>?_⟩,h.filter _,fun a ha b hb=>?_⟩
 ·rw [List.mem_singleton.1 hb]
  simpa using (List.mem_filter.1 ha).2
 ·have h2:n<b:=by simpa using (List.mem_filter.1 hb).2
  rcases List.mem_append.1 ha with ha | ha
  ·have:a<n:=by simpa using (List.mem_filter.1 ha).2
   omega
  ·rw [List.mem_singleton.1 ha];exact h2
theorem aDk {l:List Int} (hl:l.length≤1000) (h:l.Pairwise (· < ·)) (n:Int):anW l n=some (pt l n):=by
 have lp:∀(k i:Nat) (done:Bool) (out:List Int),i+k=l.length→out.length≤i+1→(done=false→out=l.take i∧∀x∈l.take i,x<n)→(done=true→out=pt (l.take i) n∧∀j (hj:j<l.length),i≤j→n<l[j])→
  ∃d o,aiM (ajp l n) (done,(i:Int),out)=some (d,o)∧(d=false→o=l∧∀x∈l,x<n)∧(d=true→o=pt l n):=by
  intro k
  induction k with
  | zero=>
   intro i done out hi ho h1 h2
   refine ⟨done,out,aiN ?_,fun hd=>?_,fun hd=>?_⟩
   ·unfold ajp
    simp only
    rw [if_neg (by omega)]
   ·have:=h1 hd
    rw [List.take_of_length_le (by omega)] at this
    exact this
   ·have:=(h2 hd).1
    rw [List.take_of_length_le (by omega)] at this
    exact this
  | succ k ih=>
   intro i done out hi ho h1 h2
   have hi':i<l.length:=by omega
   have htk:=List.take_succ_eq_append_getElem hi'
   have hlt:∀x∈l.take i,x<l[i]:=by
    intro x hx
    obtain ⟨j,hj,rfl⟩:=List.mem_take_iff_getElem.1 hx
    exact List.pairwise_iff_getElem.1 h j i (by omega) hi' (by omega)
   have hgt:∀j (hj:j<l.length),i+1≤j→l[i] <l[j]:=fun j hj hij=>List.pairwise_iff_getElem.1 h i j hi' hj (by omega)
   cases done with
   | true=>
    obtain ⟨e1,e2⟩:=h2 rfl
    have e3:=e2 i hi' (Nat.le_refl _)
    have st:ajp l n (true,(i:Int),out)=some (.inl (true,((i+1:Nat):Int),out++[l[i]])):=by
     unfold ajp ajX
     simp only
     rw [if_pos (by omega),if_pos trivial,Option.bind_some,if_neg (by decide),akn hi',Option.bind_some,arh (by rw [List.length_singleton];omega),Option.bind_some,aiZ (by omega)]
    rw [aiW st]
    refine ih (i+1) true _ (by omega) (by rw [List.length_append,List.length_singleton];omega) (fun h=>by cases h) fun _=>⟨?_,fun j hj hij=>e2 j hj (by omega)⟩
    rw [e1,htk]
    unfold pt
    rw [List.filter_append,List.filter_append]
    have f1:[l[i]].filter (fun x=>decide (x<n))=[]:=by simp;omega
    have f2:[l[i]].filter (fun x=>decide (n<x))=[l[i]]:=by simp [e3]
    rw [f1,f2]
    simp
   | false=>
    obtain ⟨e1,e2⟩:=h1 rfl
    have p1:(l.take i).filter (fun x=>decide (x<n))=l.take i:=List.filter_eq_self.2 fun x hx=>by simpa using e2 x hx
    have p2:(l.take i).filter (fun x=>decide (n<x))=[]:=List.filter_eq_nil_iff.2 fun x hx=>by have:=e2 x hx;simp;omega
    by_cases c:l[i]≥n
    ·by_cases c2:l[i] >n
     ·have st:ajp l n (false,(i:Int),out)=some (.inl (true,((i+1:Nat):Int),out++[n]++[l[i]])):=by
       unfold ajp ajX
       simp only
       rw [if_pos (by omega),if_neg (by decide),akn hi',Option.bind_some,Option.bind_some,decide_eq_true c,if_pos rfl,Option.bind_some,if_pos c2,arh (by rw [List.length_singleton];omega),Option.bind_some,Option.bind_some,arh (by rw [List.length_append,List.length_singleton,List.length_singleton];omega),Option.bind_some,aiZ (by omega)]
      rw [aiW st]
      refine ih (i+1) true _ (by omega) (by rw [e1,List.length_append,List.length_append,List.length_singleton,List.length_singleton,List.length_take];omega) (fun h=>by cases h) fun _=>⟨?_,fun j hj hij=>by have:=hgt j hj hij;omega⟩
      rw [e1,htk]
      unfold pt
      rw [List.filter_append,List.filter_append,p1,p2]
      have f1:[l[i]].filter (fun x=>decide (x<n))=[]:=by simp;omega
      have f2:[l[i]].filter (fun x=>decide (n<x))=[l[i]]:=by simp;omega
      rw [f1,f2]
      simp
     ·have he:l[i]=n:=by omega
      have st:ajp l n (false,(i:Int),out)=some (.inl (true,((i+1:Nat):Int),out++[l[i]])):=by
       unfold ajp ajX
       simp only
       rw [if_pos (by omega),if_neg (by decide),akn hi',Option.bind_some,Option.bind_some,decide_eq_true c,if_pos rfl,Option.bind_some,if_neg c2,Option.bind_some,arh (by rw [List.length_singleton];omega),Option.bind_some,aiZ (by omega)]
      rw [aiW st]
      refine ih (i+1) true _ (by omega) (by rw [List.length_append,List.length_singleton];omega) (fun h=>by cases h) fun _=>⟨?_,fun j hj hij=>by have:=hgt j hj hij;omega⟩
      rw [e1,htk]
      unfold pt
      rw [List.filter_append,List.filter_append,p1,p2,he]
      simp
    ·have st:ajp l n (false,(i:Int),out)=some (.inl (false,((i+1:Nat):Int),out++[l[i]])):=by
      unfold ajp ajX
      simp only
      rw [if_pos (by omega),if_neg (by decide),akn hi',Option.bind_some,Option.bind_some,decide_eq_false c,if_neg (by decide),Option.bind_some,arh (by rw [List.length_singleton];omega),Option.bind_some,aiZ (by omega)]
     rw [aiW st]
     refine ih (i+1) false _ (by omega) (by rw [List.length_append,List.length_singleton];omega) (fun _=>⟨by rw [e1,htk],fun x hx=>?_⟩) fun h=>by cases h
     rw [htk] at hx
     rcases List.mem_append.1 hx with hx | hx
     ·exact e2 x hx
     ·rw [List.mem_singleton.1 hx];omega
 obtain ⟨d,o,q1,q2,q3⟩:=lp l.length 0 false [] (by omega) (by simp) (fun _=>⟨by simp,by simp⟩) (fun h=>by cases h)
 have q1:aiM (ajp l n) (false,0,[])=_:=q1
 unfold anW alR
 rw [q1]
 cases d with
 | true=>rw [q3 rfl];rfl
 | false=>
  obtain ⟨rfl,q4⟩:=q2 rfl
  simp only [Option.bind_some]
  rw [if_neg (by decide),arh (by rw [List.length_singleton];omega),Option.bind_some]
  unfold pt
  rw [List.filter_eq_self.2 fun x hx=>by simpa using q4 x hx,List.filter_eq_nil_iff.2 fun x hx=>by have:=q4 x hx;simp;omega,List.append_nil]
theorem aBL (l:List Int) (h:l.length≤1073741824):alU l 1=some (1+(l.length:Int),iota 1 l.length):=by
 unfold alU
 rw [aA8 (f:=alc) l (k:=1) (by omega) (by omega) ?_ ?_]
 ·rfl
 ·intro k i out hi
  unfold alc
  simp only
  rw [if_pos (by omega),akn hi]
  simp
 ·intro k out
  unfold alc
  simp
theorem aBM (n:Nat) (h:n≤1073741824):alj (iota 1 n) 1=some (1+(n:Int)):=by
 unfold alj
 rw [aA9 (f:=ald (iota 1 n)) (n:=n) (k:=1) (by omega) (by omega) ?_ ?_]
 ·rfl
 ·intro i hi
  unfold ald
  simp only
  rw [if_pos (by rw [alm];omega),avi,aws _ _ _ hi]
  simp
 ·unfold ald
  simp [alm]
theorem aEt (l:List Int) (h:l.length≤1073741824):aka l l=some true:=by
 unfold aka
 rw [if_neg (by simp),awr (n:=l.length) (by omega) (fun i hi=>?_) ?_]
 ·rfl
 ·unfold ak1
  rw [if_neg (by omega)]
 ·unfold ak1
  rw [if_pos (by omega),akn hi,Option.bind_some,Option.bind_some]
  simp
theorem ayg (n a b:Int):al9 n a b=some (decide (a≤n∧n≤b)):=by
 unfold al9
 rw [Bool.decide_and]
theorem aBN (t:aiE) (x y:Int):akW t x y=ai0 x y t.aku t.High t.Cells:=by
 unfold akW ai0 anH
 simp only [Option.bind_assoc,Option.bind_some]
theorem aEu (a:Int) {b:Int} (hb:0<b):-b<a.tmod b∧a.tmod b<b:=by
 rcases Int.le_total 0 a with h | h
 ·rw [Int.tmod_eq_emod_of_nonneg h]
  have:=Int.emod_nonneg a (show b≠0 by omega)
  have:=Int.emod_lt_of_pos a hb
  omega
 ·have e:a.tmod b=-((-a).tmod b):=by rw [Int.neg_tmod,Int.neg_neg]
  rw [e,Int.tmod_eq_emod_of_nonneg (show 0≤-a by omega)]
  have:=Int.emod_nonneg (-a) (show b≠0 by omega)
  have:=Int.emod_lt_of_pos (-a) hb
  omega
theorem ayh (a:Int) {b:Int} (h0:0<b) (h1:b≤12):∃r,anH a b=some r∧0≤r∧r<b:=by
 have t1:=aEu a h0
 unfold anH md
 rw [if_neg (by omega),Option.bind_some,if_neg (by omega),Option.bind_some,alv (by omega) (by omega),Int.tmod_eq_emod_of_nonneg (by omega)]
 exact ⟨_,rfl,Int.emod_nonneg _ (by omega),Int.emod_lt_of_pos _ h0⟩
structure TB (t:aiE):Prop where
 w0:1≤t.aku
 w1:t.aku≤12
 h0:1≤t.High
 h1:t.High≤12
 ln:(t.Cells.length:Int)=t.aku*t.High
theorem TB.mul {t:aiE} (h:TB t):1≤t.Cells.length∧t.Cells.length≤144:=by
 have a:=Int.mul_le_mul h.w1 h.h1 (by have:=h.h0;omega) (by omega)
 have b:=Int.mul_le_mul h.w0 h.h0 (by omega) (by have:=h.w0;omega)
 have:=h.ln
 omega
theorem ayi {t:aiE} (h:TB t) (x y:Int):∃r:Int,ai0 x y t.aku t.High t.Cells=some r∧0≤r∧r<t.Cells.length:=by
 have w0:=h.w0
 have w1:=h.w1
 have h0:=h.h0
 have h1:=h.h1
 obtain ⟨a,a1,a2,a3⟩:=ayh y (show 0<t.High by omega) h1
 obtain ⟨b,b1,b2,b3⟩:=ayh x (show 0<t.aku by omega) w1
 have m1:a*t.aku≤(t.High - 1) *t.aku:=Int.mul_le_mul_of_nonneg_right (by omega) (by omega)
 have m0:0≤a*t.aku:=Int.mul_nonneg a2 (by omega)
 have m2:(t.High - 1) *t.aku=t.aku*t.High - t.aku:=by rw [Int.sub_mul,Int.one_mul,Int.mul_comm]
 have hl:=h.ln
 have hm:=h.mul
 unfold ai0
 rw [a1,Option.bind_some,b1,Option.bind_some,alv (n:=a*t.aku) (by omega) (by omega),alv (by omega) (by omega)]
 exact ⟨_,rfl,by omega,by omega⟩
theorem ay4 {t:aiE} (h:TB t) {i:Nat} (hi:i<t.Cells.length):∃a b c e:Int,akA t (i:Int)=some [a,b,c,e]∧ajH t (i:Int)=some ⟨a,c,b,e⟩∧∀y∈[a,b,c,e],0≤y∧y<t.Cells.length:=by
 have w0:=h.w0
 have hm:=h.mul
 unfold akA ajH md dv
 rw [if_neg (by omega),if_neg (by omega)]
 simp only [Option.bind_some,aBN]
 obtain ⟨a,a1,a2,a3⟩:=ayi h (w64 ((i:Int).tmod t.aku+1)) (IntKind.wrap .i64 ((i:Int).tdiv t.aku))
 obtain ⟨b,b1,b2,b3⟩:=ayi h ((i:Int).tmod t.aku) (w64 (IntKind.wrap .i64 ((i:Int).tdiv t.aku)+1))
 obtain ⟨c,c1,c2,c3⟩:=ayi h (w64 ((i:Int).tmod t.aku - 1)) (IntKind.wrap .i64 ((i:Int).tdiv t.aku))
 obtain ⟨e,e1,e2,e3⟩:=ayi h ((i:Int).tmod t.aku) (w64 (IntKind.wrap .i64 ((i:Int).tdiv t.aku) - 1))
 rw [a1,b1,c1,e1]
 refine ⟨a,b,c,e,rfl,rfl,fun y hy=>?_⟩
 simp only [List.mem_cons,List.not_mem_nil,or_false] at hy
 rcases hy with rfl | rfl | rfl | rfl
 ·exact ⟨a2,a3⟩
 ·exact ⟨b2,b3⟩
 ·exact ⟨c2,c3⟩
 ·exact ⟨e2,e3⟩
noncomputable def nbS (t:aiE) (i:Int):List Int:=(akA t i).getD []
theorem atM {t:aiE} (h:TB t) {i:Int} (h0:0≤i) (hi:i<t.Cells.length):akA t i=some (nbS t i)∧(nbS t i).length=4∧(∀y∈nbS t i,0≤y∧y<t.Cells.length)∧
 ∃z:aol,ajH t i=some z∧∀y,y∈[z.e0,z.e1,z.e2,z.e3]↔y∈nbS t i:=by
 obtain ⟨k,rfl⟩:∃k:Nat,i=(k:Int):=⟨i.toNat,by omega⟩
 obtain ⟨a,b,c,e,h1,h2,h3⟩:=ay4 h (i:=k) (by omega)
 have e0:nbS t (k:Int)=[a,b,c,e]:=by unfold nbS;rw [h1];rfl
 rw [e0]
 refine ⟨h1,rfl,h3,_,h2,fun y=>?_⟩
 simp only [List.mem_cons,List.not_mem_nil,or_false]
 constructor
 ·rintro (h | h | h | h)
  ·exact .inl h
  ·exact .inr (.inr (.inl h))
  ·exact .inr (.inl h)
  ·exact .inr (.inr (.inr h))
 ·rintro (h | h | h | h)
  ·exact .inl h
  ·exact .inr (.inr (.inl h))
  ·exact .inr (.inl h)
  ·exact .inr (.inr (.inr h))
def gc (t:aiE) (y:Int):Int:=t.Cells.getD y.toNat (-1)
theorem arL {t:aiE} {y:Int} (h0:0≤y) (h1:y<t.Cells.length):rd t.Cells y=some (gc t y):=by
 obtain ⟨k,rfl⟩:∃k:Nat,y=(k:Int):=⟨y.toNat,by omega⟩
 have hk:k<t.Cells.length:=by omega
 unfold gc
 rw [akn hk,Int.toNat_natCast,List.getD_eq_getElem?_getD,List.getElem?_eq_getElem hk]
 rfl
def an9 (t:aiE) (k:Int) (L:List Int) (y:Int):List Int:=if gc t y=k∧¬y∈L then L++[y] else L
theorem aAq {t:aiE} {k:Int} {L:List Int} {y x:Int}:x∈an9 t k L y↔x∈L∨(x=y∧gc t x=k):=by
 unfold an9
 split
 ·rename_i h
  rw [List.mem_append,List.mem_singleton]
  exact ⟨fun q=>q.imp id fun e=>⟨e,e ▸ h.1⟩,fun q=>q.imp id fun e=>e.1⟩
 ·rename_i h
  refine ⟨.inl,fun q=>?_⟩
  rcases q with q | ⟨rfl,q⟩
  ·exact q
  ·by_cases c:x∈L
   ·exact c
   ·exact absurd ⟨q,c⟩ h
theorem apy {t:aiE} {k x:Int}:∀(Y L:List Int),x∈Y.foldl (an9 t k) L↔x∈L∨(x∈Y∧gc t x=k)
 | [],L=>by simp
 | y::Y,L=>by
  rw [List.foldl_cons,apy Y,aAq,List.mem_cons]
  constructor
  ·rintro ((h | ⟨h,g⟩) | ⟨h,g⟩)
   ·exact .inl h
   ·exact .inr ⟨.inl h,g⟩
   ·exact .inr ⟨.inr h,g⟩
  ·rintro (h | ⟨h | h,g⟩)
   ·exact .inl (.inl h)
   ·exact .inl (.inr ⟨h,g⟩)
   ·exact .inr ⟨h,g⟩
theorem arM {t:aiE} {k:Int}:∀(Y L:List Int),∃M,Y.foldl (an9 t k) L=L++M∧M.length≤Y.length
 | [],L=>⟨[],by simp,by simp⟩
 | y::Y,L=>by
  rw [List.foldl_cons]
  obtain ⟨M,h,hl⟩:=arM Y (an9 t k L y)
  rw [h]
  unfold an9
  split
  ·exact ⟨[y]++M,by rw [List.append_assoc],by simp;omega⟩
  ·exact ⟨M,rfl,by rw [List.length_cons];omega⟩
theorem ayj {t:aiE} {k:Int}:∀(Y L:List Int),L.Nodup→(Y.foldl (an9 t k) L).Nodup
 | [],L,h=>h
 | y::Y,L,h=>by
  rw [List.foldl_cons]
  refine ayj Y _ ?_
  unfold an9
  split
  ·rename_i c
   exact List.nodup_append.2 ⟨h,List.nodup_cons.2 ⟨List.not_mem_nil,List.nodup_nil⟩,fun a ha b hb e=>c.2 (by rw [List.mem_singleton.1 hb] at e;exact e ▸ ha)⟩
  ·exact h
theorem q_s {t:aiE} {k:Int} {X:List Int} (hX:∀y∈X,0≤y∧y<t.Cells.length) (hXl:X.length≤100) {L:List Int} (hL:L.length≤10000):
 aiM (aj0 k t X) (0,L)=some (X.foldl (an9 t k) L):=by
 have lp:∀(r j:Nat) (L:List Int),j+r=X.length→L.length≤10000+j→aiM (aj0 k t X) ((j:Int),L)=some ((X.drop j).foldl (an9 t k) L):=by
  intro r
  induction r with
  | zero=>
   intro j L hj hl
   refine aiN ?_
   unfold aj0
   simp only
   rw [if_neg (by omega),List.drop_of_length_le (by omega)]
   rfl
  | succ r ih=>
   intro j L hj hl
   have hj':j<X.length:=by omega
   obtain ⟨y0,y1⟩:=hX _ (List.getElem_mem hj')
   have st:aj0 k t X ((j:Int),L)=some (.inl (((j+1:Nat):Int),an9 t k L X[j])):=by
    unfold aj0 ak6 an9
    simp only
    rw [if_pos (by omega),akn hj',aiZ (by omega)]
    simp only [Option.bind_some]
    rw [arL y0 y1,Option.bind_some,awL L X[j] (by omega)]
    by_cases c1:gc t X[j]=k
    ·rw [if_pos c1]
     by_cases c2:X[j]∈L
     ·rw [decide_eq_true c2,if_neg (fun h=>h.2 c2)]
      rfl
     ·rw [decide_eq_false c2,if_pos ⟨c1,c2⟩]
      simp only [Option.bind_some,Bool.not_false,if_true]
      rw [arh (by rw [List.length_singleton];omega)]
      rfl
    ·rw [if_neg c1,if_neg (fun h=>c1 h.1)]
     rfl
   rw [aiW st,ih (j+1) _ (by omega) (by
    unfold an9
    split
    ·rw [List.length_append,List.length_singleton];omega
    ·omega),←List.getElem_cons_drop hj',List.foldl_cons]
 have:=lp X.length 0 L (by omega) (by omega)
 rw [List.drop_zero] at this
 exact this
def atN (t:aiE) (met:List Bool) (L:List Int):Prop:=met.length=t.Cells.length∧∀y:Nat,y<t.Cells.length→met[y]?=some (decide ((y:Int)∈L))
theorem q_i {t:aiE} {k:Int} {z:aol} (hX:∀y∈[z.e0,z.e1,z.e2,z.e3],0≤y∧y<t.Cells.length) {L:List Int} (hL:L.length≤10000) {met:List Bool} (hm:atN t met L):
 ∃met',aiM (ajI t k z) (0,met,L)=some (met',[z.e0,z.e1,z.e2,z.e3].foldl (an9 t k) L)∧atN t met' ([z.e0,z.e1,z.e2,z.e3].foldl (an9 t k) L):=by
 have hX4:[z.e0,z.e1,z.e2,z.e3].length=4:=rfl
 generalize hE:[z.e0,z.e1,z.e2,z.e3]=X at hX hX4
 have lp:∀(r j:Nat) (L:List Int) (met:List Bool),j+r=4→L.length≤10000+j→atN t met L→∃met',aiM (ajI t k z) ((j:Int),met,L)=some (met',(X.drop j).foldl (an9 t k) L)∧atN t met' ((X.drop j).foldl (an9 t k) L):=by
  intro r
  induction r with
  | zero=>
   intro j L met hj hl hm
   rw [List.drop_of_length_le (by omega)]
   refine ⟨met,aiN ?_,hm⟩
   unfold ajI
   simp only
   rw [if_neg (by omega)]
   rfl
  | succ r ih=>
   intro j L met hj hl hm
   have hj':j<X.length:=by omega
   obtain ⟨y0,y1⟩:=hX _ (List.getElem_mem hj')
   rw [←List.getElem_cons_drop hj',List.foldl_cons]
   have hst:∃met',ajI t k z ((j:Int),met,L)=some (.inl (((j+1:Nat):Int),met',an9 t k L X[j]))∧atN t met' (an9 t k L X[j]):=by
    unfold ajI akC an9
    simp only
    rw [if_pos (by omega),hE,akn hj',aiZ (by omega)]
    simp only [Option.bind_some]
    generalize X[j]=y at y0 y1
    rw [arL y0 y1,Option.bind_some]
    obtain ⟨q,rfl⟩:∃q:Nat,y=(q:Int):=⟨y.toNat,by omega⟩
    have hq:q<t.Cells.length:=by omega
    have hqm:q<met.length:=by rw [hm.1];exact hq
    have hrd:rd met (q:Int)=some (decide ((q:Int)∈L)):=by rw [avi];exact hm.2 q hq
    rw [hrd]
    by_cases c1:gc t (q:Int)=k
    ·rw [if_pos c1]
     by_cases c2:(q:Int)∈L
     ·rw [decide_eq_true c2,if_neg (fun h=>h.2 c2)]
      exact ⟨met,rfl,hm⟩
     ·rw [decide_eq_false c2,if_pos ⟨c1,c2⟩]
      simp only [Option.bind_some,Bool.not_false,if_true]
      rw [arh (by rw [List.length_singleton];omega)]
      refine ⟨_,rfl,by rw [List.length_set];exact hm.1,fun y hy=>?_⟩
      rw [Int.toNat_natCast]
      by_cases e:q=y
      ·subst e
       rw [List.getElem?_set_self hqm,decide_eq_true (by simp)]
      ·rw [List.getElem?_set_ne e,hm.2 y hy]
       congr 1
       refine decide_eq_decide.2 ?_
       rw [List.mem_append,List.mem_singleton]
       exact ⟨.inl,fun h=>h.elim id fun h=>absurd h (by omega)⟩
    ·rw [if_neg c1,if_neg (fun h=>c1 h.1)]
     exact ⟨met,rfl,hm⟩
   obtain ⟨met',st,hm'⟩:=hst
   obtain ⟨aF4,h1,h2⟩:=ih (j+1) (an9 t k L X[j]) met' (by omega) (by
    unfold an9
    split
    ·rw [List.length_append,List.length_singleton];omega
    ·omega) hm'
   exact ⟨aF4,by rw [aiW st];exact h1,h2⟩
 obtain ⟨met',h1,h2⟩:=lp 4 0 L met (by omega) (by omega) hm
 rw [List.drop_zero] at h1 h2
 exact ⟨met',h1,h2⟩
structure IB (t:aiE) (k f:Int) (L:List Int) (i:Nat):Prop where
 nd:L.Nodup
 mem:∀x∈L,0≤x∧x<t.Cells.length∧gc t x=k
 fst:f∈L
 cl:∀j (h:j<L.length),j<i→∀y∈nbS t L[j],gc t y=k→y∈L
 mn:∀S:Int→Prop,S f→(∀x y,S x→y∈nbS t x→gc t y=k→S y)→∀x∈L,S x
theorem IB.len {t:aiE} {k f:Int} {L:List Int} {i:Nat} (h:IB t k f L i):L.length≤t.Cells.length:=by
 have h1:=aEs L t.Cells.length fun x hx=>⟨(h.mem x hx).1,(h.mem x hx).2.1⟩
 have h2:L.length=kn L:=((List.perm_ext_iff_of_nodup h.nd (awN L)).2 fun a=>by rw [aAp]).length_eq
 omega
theorem IB.step {t:aiE} (hT:TB t) {k f:Int} {L:List Int} {i:Nat} (h:IB t k f L i) (hi:i<L.length) {Y:List Int} (hY:∀y,y∈Y↔y∈nbS t L[i]):IB t k f (Y.foldl (an9 t k) L) (i+1):=by
 obtain ⟨l0,l1,l2⟩:=h.mem _ (List.getElem_mem hi)
 obtain ⟨_,_,n3,_⟩:=atM hT l0 l1
 obtain ⟨M,hM,_⟩:=arM (t:=t) (k:=k) Y L
 refine ⟨ayj Y L h.nd,fun x hx=>?_,(apy Y L).2 (.inl h.fst),fun j hj hji y hy hg=>?_,fun S hS hc x hx=>?_⟩
 ·rcases (apy Y L).1 hx with q | ⟨q,g⟩
  ·exact h.mem x q
  ·obtain ⟨a,b⟩:=n3 x ((hY x).1 q)
   exact ⟨a,b,g⟩
 ·by_cases c:j<L.length
  ·have e:(Y.foldl (an9 t k) L)[j]=L[j]:=by simp only [hM];rw [List.getElem_append_left c]
   rw [e] at hy
   by_cases c2:j<i
   ·exact (apy Y L).2 (.inl (h.cl j c c2 y hy hg))
   ·have:j=i:=by omega
    subst this
    exact (apy Y L).2 (.inr ⟨(hY y).2 hy,hg⟩)
  ·omega
 ·rcases (apy Y L).1 hx with q | ⟨q,g⟩
  ·exact h.mn S hS hc x q
  ·exact hc L[i] x (h.mn S hS hc _ (List.getElem_mem hi)) ((hY x).1 q) g
theorem IB.same {t:aiE} {k f:Int} {L M:List Int} (h:IB t k f L L.length) (g:IB t k f M M.length):L.length=M.length:=by
 have sub:∀{L M:List Int},IB t k f L L.length→IB t k f M M.length→∀x∈L,x∈M:=by
  intro L M h g
  refine h.mn (·∈M) g.fst fun x y hx hy hk=>?_
  obtain ⟨j,hj,rfl⟩:=List.getElem_of_mem hx
  exact g.cl j hj hj y hy hk
 exact ((List.perm_ext_iff_of_nodup h.nd g.nd).2 fun a=>⟨sub h g a,sub g h a⟩).length_eq
theorem b_s {t:aiE} (hT:TB t) {k f:Int}:∀(r i:Nat) (L:List Int),i+r=t.Cells.length→i≤L.length→IB t k f L i→∃L',aiM (ajG k t) ((i:Int),L)=some L'∧IB t k f L' L'.length:=by
 have hm:=hT.mul
 intro r
 induction r with
 | zero=>
  intro i L hi hl h
  have:=h.len
  have e:i=L.length:=by omega
  refine ⟨L,aiN ?_,e ▸ h⟩
  unfold ajG
  simp only
  rw [if_neg (by omega)]
 | succ r ih=>
  intro i L hi hl h
  have hn:=h.len
  by_cases c:i<L.length
  ·obtain ⟨l0,l1,l2⟩:=h.mem _ (List.getElem_mem c)
   obtain ⟨n1,n2,n3,_⟩:=atM hT l0 l1
   obtain ⟨M,hM,_⟩:=arM (t:=t) (k:=k) (nbS t L[i]) L
   have st:ajG k t ((i:Int),L)=some (.inl (((i+1:Nat):Int),(nbS t L[i]).foldl (an9 t k) L)):=by
    unfold ajG
    simp only
    rw [if_pos (by omega),akn c,Option.bind_some,n1,Option.bind_some,q_s n3 (by omega) (by omega),Option.bind_some,aiZ (by omega)]
   rw [aiW st]
   exact ih (i+1) _ (by omega) (by rw [hM,List.length_append];omega) (h.step hT c fun y=>Iff.rfl)
  ·have e:i=L.length:=by omega
   refine ⟨L,aiN ?_,e ▸ h⟩
   unfold ajG
   simp only
   rw [if_neg (by omega)]
theorem b_i {t:aiE} (hT:TB t) {k f:Int}:∀(r i:Nat) (L:List Int) (met:List Bool),i+r=t.Cells.length→i≤L.length→atN t met L→IB t k f L i→∃L',aiM (ajt t k) ((i:Int),(i:Int),met,L)=some (L'.length:Int)∧IB t k f L' L'.length:=by
 have hm:=hT.mul
 intro r
 induction r with
 | zero=>
  intro i L met hi hl hM h
  have:=h.len
  have e:i=L.length:=by omega
  refine ⟨L,aiN ?_,e ▸ h⟩
  unfold ajt
  simp only
  rw [if_neg (by omega),e]
 | succ r ih=>
  intro i L met hi hl hM h
  have hn:=h.len
  by_cases c:i<L.length
  ·obtain ⟨l0,l1,l2⟩:=h.mem _ (List.getElem_mem c)
   obtain ⟨n1,n2,n3,z,z1,z2⟩:=atM hT l0 l1
   obtain ⟨met',q1,q2⟩:=q_i (t:=t) (k:=k) (z:=z) (fun y hy=>n3 y ((z2 y).1 hy)) (L:=L) (by omega) hM
   obtain ⟨M,hMM,_⟩:=arM (t:=t) (k:=k) [z.e0,z.e1,z.e2,z.e3] L
   have st:ajt t k ((i:Int),(i:Int),met,L)=some (.inl (((i+1:Nat):Int),((i+1:Nat):Int),met',[z.e0,z.e1,z.e2,z.e3].foldl (an9 t k) L)):=by
    unfold ajt
    simp only
    rw [if_pos (by omega),akn c,Option.bind_some,z1,Option.bind_some,q1,Option.bind_some,aiZ (by omega)]
   rw [aiW st]
   exact ih (i+1) _ met' (by omega) (by rw [hMM,List.length_append];omega) q2 (h.step hT c z2)
  ·have e:i=L.length:=by omega
   refine ⟨L,aiN ?_,e ▸ h⟩
   unfold ajt
   simp only
   rw [if_neg (by omega),e]
def apT (t:aiE) (k:Int) (i:Nat):Nat:=((t.Cells.take i).filter fun x=>decide (x=k)).length
theorem awO {t:aiE} {k:Int} {i:Nat} (h:i<t.Cells.length):apT t k (i+1)=if t.Cells[i]=k then apT t k i+1 else apT t k i:=by
 unfold apT
 rw [List.take_succ_eq_append_getElem h,List.filter_append,List.length_append]
 by_cases c:t.Cells[i]=k<;>simp [c]
theorem cnt_le (t:aiE) (k:Int) (i:Nat):apT t k i≤t.Cells.length:=by
 unfold apT
 refine Nat.le_trans (List.length_filter_le _ _) ?_
 rw [List.length_take]
 exact Nat.min_le_right _ _
theorem aBO {t:aiE} (hl:t.Cells.length≤144) {k:Int} {f:Nat} (hf:f<t.Cells.length) (h1:t.Cells[f]=k) (h2:∀g (h:g<f),t.Cells[g]≠k):
 aiM (akH k t) ((-1),0,0)=some ((f:Int),(apT t k t.Cells.length:Int)):=by
 have q:aiM (akH k t) ((if f<0 then (f:Int) else -1),(apT t k 0:Int),((0:Nat):Int))=some ((f:Int),(apT t k t.Cells.length:Int)):=by
  refine amr (fun i:Nat=>(if f<i then (f:Int) else -1,(apT t k i:Int),(i:Int))) t.Cells.length (fun i hi=>?_) ?_
  ·have hc:=cnt_le t k i
   unfold akH alq alp
   simp only
   rw [if_pos (by omega),akn hi,Option.bind_some,aiZ (by omega),awO hi]
   by_cases c:t.Cells[i]=k
   ·rw [if_pos c,if_pos c,aiZ (by omega)]
    by_cases c2:f<i
    ·rw [if_pos c2,if_neg (by omega),if_pos (show f<i+1 by omega)]
    ·have e:i=f:=by
      rcases Nat.lt_or_ge i f with h | h
      ·exact absurd c (h2 i h)
      ·omega
     rw [if_neg c2,if_pos (by decide),if_pos (show f<i+1 by omega),e]
   ·have e:i≠f:=fun e=>c (by subst e;exact h1)
    rw [if_neg c,if_neg c,aiZ (by omega)]
    by_cases c2:f<i
    ·rw [if_pos c2,if_pos (show f<i+1 by omega)]
    ·rw [if_neg c2,if_neg (show ¬f<i+1 by omega)]
  ·unfold akH
   simp only
   rw [if_neg (by omega),if_pos hf]
 rw [if_neg (by omega)] at q
 exact q
theorem aBP {t:aiE} (hl:t.Cells.length≤144) {k c:Int} (c0:0≤c) (c1:c≤1000):aiM (aj6 t k) (c,0)=some (c - apT t k t.Cells.length):=by
 have q:aiM (aj6 t k) (c - (apT t k 0:Int),((0:Nat):Int))=some (c - apT t k t.Cells.length):=by
  refine amr (fun i:Nat=>(c - (apT t k i:Int),(i:Int))) t.Cells.length (fun i hi=>?_) ?_
  ·have hc:=cnt_le t k i
   unfold aj6 akB
   simp only
   rw [if_pos (by omega),akn hi,Option.bind_some,aiZ (by omega),awO hi]
   by_cases e:t.Cells[i]=k
   ·rw [if_pos e,if_pos e,alv (by omega) (by omega),show c - (apT t k i:Int) - 1=c - ((apT t k i+1:Nat):Int) by omega]
   ·rw [if_neg e,if_neg e]
  ·unfold aj6
   simp only
   rw [if_neg (by omega)]
 have e:(apT t k 0:Int)=0:=rfl
 rw [e,Int.sub_zero] at q
 exact q
theorem aBQ (l:List Int) (hl:l.length≤1048576) (k:Int):(¬k∈l∧ajy l k=some (-1))∨(k∈l∧∃f,∃h:f<l.length,l[f]=k∧(∀g (h:g<f),l[g]≠k)∧ajy l k=some (f:Int)):=by
 unfold ajy
 rcases atJ (f:=ajB l k) l (fun x=>decide (k=x)) (fun i=>(i:Int)) (by omega) (fun i hi=>by
  unfold ajB
  rw [if_pos (by omega),akn hi,Option.bind_some]
  by_cases c:k=l[i]
  ·rw [if_pos c,decide_eq_true c];rfl
  ·rw [if_neg c,decide_eq_false c];rfl) (by unfold ajB;rw [if_neg (by omega)]) with ⟨a,b⟩ | ⟨i,hi,a,a',b⟩
 ·rw [b]
  exact .inl ⟨fun h=>by simpa using a k h,rfl⟩
 ·rw [b]
  have e:k=l[i]:=by simpa using a
  exact .inr ⟨e ▸ List.getElem_mem hi,i,hi,e.symm,(fun g hg e=>by have:=a' g hg;simp [e] at this),rfl⟩
theorem aDl {t:aiE} (hT:TB t) {k x46:Int} (hk:k<x46) (k0:0≤k) (k1:k≤1000):
 (¬k∈t.Cells∧ajc t x46 k=some (.inr (.inr false)))∨
 (k∈t.Cells∧∃b,ak7 t k=some b∧ajc t x46 k=if b=true then some (.inl (w64 (k+1))) else some (.inr (.inr false))):=by
 have hm:=hT.mul
 rcases aBQ t.Cells (by omega) k with ⟨h1,h2⟩ | ⟨h1,f,hf,h3,h4,h2⟩
 ·left
  refine ⟨h1,?_⟩
  unfold ajc
  rw [if_pos hk,h2,Option.bind_some,if_pos (by decide)]
 ·right
  have hg:gc t (f:Int)=k:=by
   have:=arL (t:=t) (y:=(f:Int)) (by omega) (by omega)
   rw [akn hf] at this
   injection this with this
   rw [←this];exact h3
  have hI:IB t k (f:Int) [(f:Int)] 0:=⟨List.nodup_cons.2 ⟨List.not_mem_nil,List.nodup_nil⟩,(fun x hx=>by rw [List.mem_singleton.1 hx];exact ⟨by omega,by omega,hg⟩),by simp,(fun j h hj=>absurd hj (by omega)),fun S hS _ x hx=>by rw [List.mem_singleton.1 hx];exact hS⟩
  obtain ⟨L1,a1,a2⟩:=b_s hT t.Cells.length 0 [(f:Int)] (by omega) (by omega) hI
  have hM:atN t ((List.replicate t.Cells.length false).set f true) [(f:Int)]:=by
   refine ⟨by simp,fun y hy=>?_⟩
   by_cases e:f=y
   ·subst e
    rw [List.getElem?_set_self (by simpa using hy),decide_eq_true (by simp)]
   ·rw [List.getElem?_set_ne e,List.getElem?_replicate,if_pos hy,decide_eq_false]
    rw [List.mem_singleton]
    omega
  obtain ⟨L2,c1,c2⟩:=b_i hT t.Cells.length 0 [(f:Int)] _ (by omega) (by omega) hM hI
  have hs:=a2.same c2
  have hl2:=c2.len
  have a1:aiM (ajG k t) (0,[(f:Int)])=_:=a1
  have c1:aiM (ajt t k) (0,0,((List.replicate t.Cells.length false).set f true),[(f:Int)])=_:=c1
  refine ⟨h1,((L1.length:Int)==(apT t k t.Cells.length:Int)),?_,?_⟩
  ·unfold ak7
   rw [aBO (by omega) hf h3 h4]
   simp only [Option.bind_some]
   rw [a1]
   rfl
  ·have hmk:mkl 1 (t.Cells.length:Int) false=some (List.replicate t.Cells.length false):=by
    unfold mkl
    rw [if_pos (by omega),Int.toNat_natCast]
   have hrd:rd (List.replicate t.Cells.length false) (f:Int)=some false:=by
    rw [akn (by simpa using hf)];simp
   unfold ajc
   rw [if_pos hk,h2,Option.bind_some,if_neg (by omega),hmk,Option.bind_some,hrd,Option.bind_some,Int.toNat_natCast,c1,Option.bind_some,aBP (by omega) (by omega) (by omega),Option.bind_some,hs]
   by_cases e:(L2.length:Int) - (apT t k t.Cells.length:Int)=0
   ·rw [if_neg (fun h=>h e),if_pos (by rw [beq_iff_eq];omega)]
   ·rw [if_pos e,if_neg (by rw [beq_iff_eq];omega)]
theorem aEv {C:List Int} (h0:1≤C.length) (h1:C.length≤144):∃M,ajO C=some M∧M∈C∧∀x∈C,x≤M:=by
 have lp:∀(r i:Nat) (m:Int),i+r=C.length→m∈C→(∀x∈C.take i,x≤m)→∃M,aiM (ajf C) (m,(i:Int))=some M∧M∈C∧∀x∈C,x≤M:=by
  intro r
  induction r with
  | zero=>
   intro i m hi hm hx
   refine ⟨m,aiN ?_,hm,fun x hxc=>hx x (by rw [List.take_of_length_le (by omega)];exact hxc)⟩
   unfold ajf
   simp only
   rw [if_neg (by omega)]
  | succ r ih=>
   intro i m hi hm hx
   have hi':i<C.length:=by omega
   have st:ajf C (m,(i:Int))=some (.inl (max2 m C[i],((i+1:Nat):Int))):=by
    unfold ajf
    simp only
    rw [if_pos (by omega),akn hi',Option.bind_some,aiZ (by omega)]
   rw [aiW st]
   refine ih (i+1) _ (by omega) ?_ fun x hxc=>?_
   ·rcases akf m C[i] with q | q<;>rw [q.2]
    ·exact List.getElem_mem hi'
    ·exact hm
   ·rw [List.take_succ_eq_append_getElem hi',List.mem_append,List.mem_singleton] at hxc
    have hle:m≤max2 m C[i]∧C[i]≤max2 m C[i]:=by rcases akf m C[i] with q | q<;>rw [q.2]<;>omega
    rcases hxc with h | h
    ·have:=hx x h;omega
    ·omega
 obtain ⟨M,m1,m2,m3⟩:=lp (C.length - 1) 1 C[0] (by omega) (List.getElem_mem (by omega)) (fun x hx=>by
  rw [List.take_one,List.head?_eq_getElem?,List.getElem?_eq_getElem (by omega)] at hx
  rw [List.mem_singleton.1 hx];exact Int.le_refl _)
 refine ⟨M,?_,m2,m3⟩
 unfold ajO
 have e:rd C 0=some C[0]:=akn (i:=0) (by omega)
 have m1:aiM (ajf C) (C[0],1)=some M:=m1
 rw [if_neg (by omega),e,Option.bind_some,m1]
 rfl
theorem aEw {C:List Int} (h0:1≤C.length) (h1:C.length≤144):∃M,akd C=some M∧M∈C∧∀x∈C,M≤x:=by
 have lp:∀(r i:Nat) (m:Int),i+r=C.length→m∈C→(∀x∈C.take i,m≤x)→∃M,aiM (aje C) (m,(i:Int))=some M∧M∈C∧∀x∈C,M≤x:=by
  intro r
  induction r with
  | zero=>
   intro i m hi hm hx
   refine ⟨m,aiN ?_,hm,fun x hxc=>hx x (by rw [List.take_of_length_le (by omega)];exact hxc)⟩
   unfold aje
   simp only
   rw [if_neg (by omega)]
  | succ r ih=>
   intro i m hi hm hx
   have hi':i<C.length:=by omega
   have st:aje C (m,(i:Int))=some (.inl (min2 m C[i],((i+1:Nat):Int))):=by
    unfold aje
    simp only
    rw [if_pos (by omega),akn hi',Option.bind_some,aiZ (by omega)]
   rw [aiW st]
   refine ih (i+1) _ (by omega) ?_ fun x hxc=>?_
   ·rcases amY m C[i] with q | q<;>rw [q.2]
    ·exact List.getElem_mem hi'
    ·exact hm
   ·rw [List.take_succ_eq_append_getElem hi',List.mem_append,List.mem_singleton] at hxc
    have hle:min2 m C[i]≤m∧min2 m C[i]≤C[i]:=by rcases amY m C[i] with q | q<;>rw [q.2]<;>omega
    rcases hxc with h | h
    ·have:=hx x h;omega
    ·omega
 obtain ⟨M,m1,m2,m3⟩:=lp (C.length - 1) 1 C[0] (by omega) (List.getElem_mem (by omega)) (fun x hx=>by
  rw [List.take_one,List.head?_eq_getElem?,List.getElem?_eq_getElem (by omega)] at hx
  rw [List.mem_singleton.1 hx];exact Int.le_refl _)
 refine ⟨M,?_,m2,m3⟩
 unfold akd
 have e:rd C 0=some C[0]:=akn (i:=0) (by omega)
 have m1:aiM (aje C) (C[0],1)=some M:=m1
 rw [if_neg (by omega),e,Option.bind_some,m1]
 rfl
theorem aBR (a b:Int):alF a b=some (max2 a b):=by
 unfold alF
 rcases akf a b with h | h<;>rw [h.2]
 ·rw [if_neg (by omega)]
 ·by_cases c:a>b
  ·rw [if_pos c]
  ·rw [if_neg c];congr 1;omega
theorem aDm {t:aiE} (hl:t.Cells.length≤144):(∃M,aiM (ajL t) ((-1),0)=some (.inl M)∧(∀x∈t.Cells,0≤x∧x≤35)∧(∀x∈t.Cells,x≤M)∧(M=-1∨M∈t.Cells))∨
 (aiM (ajL t) ((-1),0)=some (.inr (-1))∧∃x∈t.Cells,¬(0≤x∧x≤35)):=by
 have lp:∀(r i:Nat) (m:Int),i+r=t.Cells.length→(∀x∈t.Cells.take i,(0≤x∧x≤35)∧x≤m)→(m=-1∨m∈t.Cells)→
  (∃M,aiM (ajL t) (m,(i:Int))=some (.inl M)∧(∀x∈t.Cells,0≤x∧x≤35)∧(∀x∈t.Cells,x≤M)∧(M=-1∨M∈t.Cells))∨(aiM (ajL t) (m,(i:Int))=some (.inr (-1))∧∃x∈t.Cells,¬(0≤x∧x≤35)):=by
  intro r
  induction r with
  | zero=>
   intro i m hi hx hm
   rw [List.take_of_length_le (by omega)] at hx
   refine .inl ⟨m,aiN ?_,fun x h=>(hx x h).1,fun x h=>(hx x h).2,hm⟩
   unfold ajL
   simp only
   rw [if_neg (by omega)]
  | succ r ih=>
   intro i m hi hx hm
   have hi':i<t.Cells.length:=by omega
   by_cases c:0≤t.Cells[i]∧t.Cells[i]≤35
   ·have st:ajL t (m,(i:Int))=some (.inl (max2 m t.Cells[i],((i+1:Nat):Int))):=by
     unfold ajL
     simp only
     rw [if_pos (by omega),akn hi',Option.bind_some,ayg,Option.bind_some,decide_eq_true c,if_pos rfl,Option.bind_some,aBR,Option.bind_some,aiZ (by omega)]
    rw [aiW st]
    refine ih (i+1) _ (by omega) (fun x hxc=>?_) ?_
    ·rw [List.take_succ_eq_append_getElem hi',List.mem_append,List.mem_singleton] at hxc
     have hle:m≤max2 m t.Cells[i]∧t.Cells[i]≤max2 m t.Cells[i]:=by rcases akf m t.Cells[i] with q | q<;>rw [q.2]<;>omega
     rcases hxc with h | h
     ·have:=hx x h;exact ⟨this.1,by omega⟩
     ·rw [h];exact ⟨c,hle.2⟩
    ·rcases akf m t.Cells[i] with q | q<;>rw [q.2]
     ·exact .inr (List.getElem_mem hi')
     ·exact hm
   ·refine .inr ⟨aiN ?_,_,List.getElem_mem hi',c⟩
    unfold ajL
    simp only
    rw [if_pos (by omega),akn hi',Option.bind_some,ayg,Option.bind_some,decide_eq_false c,if_neg (by decide)]
 exact lp t.Cells.length 0 (-1) (by omega) (by simp) (.inl rfl)
theorem atO {ρ:Type} {f:Int→Option (Int ⊕ (Unit ⊕ ρ))} (K:Nat) (V:Nat→Bool) (r:ρ) (hK:K≤1048576) (h1:∀i,i<K→f (i:Int)=if V i=true then some (.inl (w64 ((i:Int)+1))) else some (.inr (.inr r))) (h2:f (K:Int)=some (.inr (.inl ()))):
 ((∀i,i<K→V i=true)∧aiM f 0=some (.inl ()))∨((∃i,i<K∧V i=false)∧aiM f 0=some (.inr r)):=by
 rcases atJ (f:=f) (List.range K) (fun x=>!V x) (fun _=>r) (by rw [List.length_range];omega) (fun i hi=>by
  rw [List.length_range] at hi
  rw [h1 i hi,List.getElem_range]
  cases V i<;>rfl) (by rw [List.length_range];exact h2) with ⟨a,b⟩ | ⟨i,hi,a,_,b⟩
 ·exact .inl ⟨fun i hi=>by simpa using a i (List.mem_range.2 hi),b⟩
 ·rw [List.length_range] at hi
  rw [List.getElem_range] at a
  exact .inr ⟨⟨i,hi,by simpa using a⟩,b⟩
structure VT (t:aiE) (n:Nat):Prop where
 tb:TB t
 n1:1≤n
 n2:n≤36
 rg:∀x∈t.Cells,0≤x∧x<n
 al:∀k:Nat,k<n→(k:Int)∈t.Cells
 ms:akc t=some (n:Int)
 ti:amT t=some (n:Int)
theorem aBS (t:aiE):∃v,aoz t=some v∧alB t=some v∧(v=true→∃n,VT t n):=by
 unfold aoz alB
 simp only [ayg,auM,Option.bind_some]
 by_cases c1:1≤t.aku∧t.aku≤12
 ·by_cases c2:1≤t.High∧t.High≤12
  ·rw [decide_eq_true c1,decide_eq_true c2]
   simp only [if_true,Option.bind_some]
   have u:=Int.mul_le_mul c1.2 c2.2 (by omega) (by omega)
   have l:=Int.mul_le_mul c1.1 c2.1 (by omega) (by omega)
   rw [alv (n:=t.aku*t.High) (by omega) (by omega)]
   by_cases c3:(t.Cells.length:Int)=t.aku*t.High
   ·have hT:TB t:=⟨c1.1,c1.2,c2.1,c2.2,c3⟩
    have hm:=hT.mul
    have e:((t.Cells.length:Int) != t.aku*t.High)=false:=by simp [c3]
    rw [e]
    simp only [Bool.false_eq_true,if_false]
    obtain ⟨A,a1,a2,a3⟩:=aEw (C:=t.Cells) (by omega) (by omega)
    obtain ⟨Z,z1,z2,z3⟩:=aEv (C:=t.Cells) (by omega) (by omega)
    rw [a1,z1,Option.bind_some]
    simp only [Option.bind_some]
    rcases aDm (t:=t) (by omega) with ⟨M,m1,m2,m3,m4⟩ | ⟨m1,x,hx,hn⟩
    ·have hA:=m2 A a2
     have hZ:=m2 Z z2
     have hMZ:M=Z:=by
      have:=m3 Z z2
      rcases m4 with h | h
      ·omega
      ·have:=z3 M h;omega
     subst hMZ
     have hti:amT t=some (((M+1).toNat:Nat):Int):=by
      unfold amT
      rw [z1,Option.bind_some,alv (by omega) (by omega)]
      congr 1;omega
     rw [if_neg (by omega)]
     simp only [Option.bind_some]
     rw [decide_eq_false (by omega),if_neg (by decide),hti,Option.bind_some]
     have aCk:akc t=(aiM (alg M t) 0).bind fun o=>match o with
      | (.inl _)=>(some (w64 (M+1)))
      | (.inr r2)=>(some r2):=by
      unfold akc
      rw [m1]
      rfl
     generalize hK:(M+1).toNat=K at hti
     have hKM:(K:Int)=M+1:=by omega
     have hall:=atO (f:=alg M t) K (fun k=>decide ((k:Int)∈t.Cells)) (-1) (by omega) (fun i hi=>by
      unfold alg
      rw [if_pos (by omega),awL _ _ (by omega),Option.bind_some]) (by unfold alg;rw [if_neg (by omega)])
     have hB:∃B:Nat→Bool,∀k,k<K→((k:Int)∈t.Cells→ak7 t (k:Int)=some (B k))∧ajc t (K:Int) (k:Int)=if (decide ((k:Int)∈t.Cells)&&B k)=true then some (.inl (w64 ((k:Int)+1))) else some (.inr (.inr false)):=by
      have:∀k:Nat,∃b:Bool,k<K→((k:Int)∈t.Cells→ak7 t (k:Int)=some b)∧ajc t (K:Int) (k:Int)=if (decide ((k:Int)∈t.Cells)&&b)=true then some (.inl (w64 ((k:Int)+1))) else some (.inr (.inr false)):=by
       intro k
       by_cases hk:k<K
       ·rcases aDl hT (k:=(k:Int)) (x46:=(K:Int)) (by omega) (by omega) (by omega) with ⟨q1,q2⟩ | ⟨q1,b,q2,q3⟩
        ·exact ⟨false,fun _=>⟨fun h=>absurd h q1,by rw [q2];simp⟩⟩
        ·exact ⟨b,fun _=>⟨fun _=>q2,by rw [q3,decide_eq_true q1,Bool.true_and]⟩⟩
       ·exact ⟨false,fun h=>absurd h hk⟩
      obtain ⟨B,hB⟩:=Classical.skolem.1 this
      exact ⟨B,hB⟩
     obtain ⟨B,hB⟩:=hB
     have himp:=atO (f:=ajc t (K:Int)) K (fun k=>decide ((k:Int)∈t.Cells)&&B k) false (by omega) (fun i hi=>(hB i hi).2) (by unfold ajc;rw [if_neg (by omega)])
     rcases hall with ⟨h1,h2⟩ | ⟨⟨i,hi,h1⟩,h2⟩
     ·have hms:akc t=some (K:Int):=by
       rw [aCk,h2]
       show some (w64 (M+1))=_
       rw [alv (by omega) (by omega),hKM]
      rw [hms,Option.bind_some]
      have hin:∀k,k<K→(k:Int)∈t.Cells:=fun k hk=>by simpa using h1 k hk
      have hspec:=atO (f:=akv t (K:Int)) K (fun k=>B k) false (by omega) (fun i hi=>by
       unfold akv
       rw [if_pos (by omega),(hB i hi).1 (hin i hi),Option.bind_some]) (by unfold akv;rw [if_neg (by omega)])
      rcases hspec with ⟨s1,s2⟩ | ⟨⟨i,hi,s1⟩,s2⟩
      ·rcases himp with ⟨_,p2⟩ | ⟨⟨j,hj,p1⟩,_⟩
       ·rw [s2,p2]
        refine ⟨true,?_,rfl,fun _=>⟨K,hT,by omega,by omega,fun x hx=>?_,hin,hms,hti⟩⟩
        ·show some (decide ((K:Int) >0))=_
         rw [decide_eq_true (by omega)]
        ·have:=m2 x hx
         have:=m3 x hx
         omega
       ·rw [decide_eq_true (hin j hj),s1 j hj] at p1
        cases p1
      ·rcases himp with ⟨p1,_⟩ | ⟨_,p2⟩
       ·have:=p1 i hi
        rw [s1,Bool.and_false] at this
        cases this
       ·rw [s2,p2]
        exact ⟨false,rfl,rfl,fun h=>by cases h⟩
     ·have hms:akc t=some (-1):=by
       rw [aCk,h2]
       rfl
      rw [hms,Option.bind_some]
      have e:aiM (akv t (-1)) 0=some (.inl ()):=aiN (by unfold akv;rw [if_neg (by omega)])
      rw [e]
      rcases himp with ⟨p1,_⟩ | ⟨_,p2⟩
      ·have:=p1 i hi
       rw [h1,Bool.false_and] at this
       cases this
      ·rw [p2]
       exact ⟨false,rfl,rfl,fun h=>by cases h⟩
    ·have hms:akc t=some (-1):=by
      unfold akc
      rw [m1]
      rfl
     rw [hms,Option.bind_some]
     have e:aiM (akv t (-1)) 0=some (.inl ()):=aiN (by unfold akv;rw [if_neg (by omega)])
     rw [e]
     refine ⟨false,rfl,?_,fun h=>by cases h⟩
     have:=a3 x hx
     have:=z3 x hx
     by_cases ca:A<0
     ·rw [if_pos ca]
      rfl
     ·rw [if_neg ca,Option.bind_some,decide_eq_true (by omega)]
      rfl
   ·have e:((t.Cells.length:Int) != t.aku*t.High)=true:=by simp [c3]
    rw [e]
    exact ⟨false,rfl,rfl,fun h=>by cases h⟩
  ·rw [decide_eq_true c1,decide_eq_false c2]
   exact ⟨false,rfl,rfl,fun h=>by cases h⟩
 ·rw [decide_eq_false c1]
  exact ⟨false,rfl,rfl,fun h=>by cases h⟩
theorem aAr:∀{L M:List Int},L.Pairwise (· < ·)→M.Pairwise (· < ·)→(∀x,x∈L↔x∈M)→L=M
 | [],[],_,_,_=>rfl
 | [],m::M,_,_,h=>by have:=(h m).2 (by simp);simp at this
 | l::L,[],_,_,h=>by have:=(h l).1 (by simp);simp at this
 | l::L,m::M,h1,h2,h=>by
  obtain ⟨a1,a2⟩:=List.pairwise_cons.1 h1
  obtain ⟨b1,b2⟩:=List.pairwise_cons.1 h2
  have e:l=m:=by
   rcases List.mem_cons.1 ((h l).1 (by simp)) with q | q
   ·exact q
   ·rcases List.mem_cons.1 ((h m).2 (by simp)) with p | p
    ·exact p.symm
    ·have:=a1 m p
     have:=b1 l q
     omega
  subst e
  congr 1
  refine aAr a2 b2 fun x=>⟨fun q=>?_,fun q=>?_⟩
  ·rcases List.mem_cons.1 ((h x).1 (List.mem_cons_of_mem _ q)) with p | p
   ·have:=a1 x q;omega
   ·exact p
  ·rcases List.mem_cons.1 ((h x).2 (List.mem_cons_of_mem _ q)) with p | p
   ·have:=b1 x q;omega
   ·exact p
section
variable {t:aiE} {n:Nat} (hV:VT t n)
def PNT (t:aiE) (I:Nat) (k v:Int):Prop:=∃i:Nat,i<I∧gc t (i:Int)=k∧∃y∈nbS t (i:Int),gc t y≠k∧v=gc t y
include hV
theorem aCl {y:Int} (h0:0≤y) (h1:y<t.Cells.length):0≤gc t y∧gc t y<n:=by
 have:=arL h0 h1
 obtain ⟨k,rfl⟩:∃k:Nat,y=(k:Int):=⟨y.toNat,by omega⟩
 have hk:k<t.Cells.length:=by omega
 rw [akn hk] at this
 injection this with this
 rw [←this]
 exact hV.rg _ (List.getElem_mem hk)
theorem aBT (k:Int):∃R,alM t k=some R∧R.Pairwise (· < ·)∧R.length≤1000∧∀v,v∈R↔PNT t t.Cells.length k v:=by
 have hT:=hV.tb
 have hm:=hT.mul
 have inner:∀(i:Nat) (hi:i<t.Cells.length) (out:List Int),out.Pairwise (· < ·)→out.length≤4*i→∃o,aiM (akL (i:Int) k t (nbS t (i:Int))) (0,out)=some o∧o.Pairwise (· < ·)∧o.length≤4* (i+1)∧
  ∀v,v∈o↔v∈out∨(gc t (i:Int)=k∧∃y∈nbS t (i:Int),gc t y≠k∧v=gc t y):=by
  intro i hi out h1 h2
  obtain ⟨_,n2,n3,_⟩:=atM hT (i:=(i:Int)) (by omega) (by omega)
  have hrd:=arL (t:=t) (y:=(i:Int)) (by omega) (by omega)
  generalize nbS t (i:Int)=X at n2 n3
  have lp:∀(r j:Nat) (out:List Int),j+r=4→out.Pairwise (· < ·)→out.length≤4*i+j→∃o,aiM (akL (i:Int) k t X) ((j:Int),out)=some o∧o.Pairwise (· < ·)∧o.length≤4* (i+1)∧
   ∀v,v∈o↔v∈out∨(gc t (i:Int)=k∧∃y∈X.drop j,gc t y≠k∧v=gc t y):=by
   intro r
   induction r with
   | zero=>
    intro j out hj h1 h2
    refine ⟨out,aiN ?_,h1,by omega,fun v=>?_⟩
    ·unfold akL
     simp only
     rw [if_neg (by omega)]
    ·rw [List.drop_of_length_le (by omega)]
     simp
   | succ r ih=>
    intro j out hj h1 h2
    have hj':j<X.length:=by omega
    obtain ⟨y0,y1⟩:=n3 _ (List.getElem_mem hj')
    have hst:∃o1,akL (i:Int) k t X ((j:Int),out)=some (.inl (((j+1:Nat):Int),o1))∧o1.Pairwise (· < ·)∧o1.length≤4*i+(j+1)∧∀v,v∈o1↔v∈out∨(gc t (i:Int)=k∧gc t X[j]≠k∧v=gc t X[j]):=by
     unfold akL alS
     simp only
     rw [if_pos (by omega),hrd,Option.bind_some,akn hj',aiZ (by omega)]
     simp only [Option.bind_some]
     rw [arL y0 y1]
     simp only [Option.bind_some]
     by_cases c1:gc t (i:Int)=k
     ·rw [if_pos c1,Option.bind_some]
      by_cases c2:gc t X[j]=k
      ·rw [if_neg (by simp [c2])]
       exact ⟨out,rfl,h1,by omega,fun v=>⟨.inl,fun h=>h.elim id fun h=>absurd c2 h.2.1⟩⟩
      ·rw [if_pos (by simpa using c2),aDk (by omega) h1,Option.bind_some]
       refine ⟨_,rfl,aDj h1,by have:=aDh out (gc t X[j]);omega,fun v=>?_⟩
       rw [aDi]
       exact ⟨fun h=>h.imp id fun h=>⟨c1,c2,h⟩,fun h=>h.imp id fun h=>h.2.2⟩
     ·rw [if_neg c1,Option.bind_some,if_neg (by decide)]
      exact ⟨out,rfl,h1,by omega,fun v=>⟨.inl,fun h=>h.elim id fun h=>absurd h.1 c1⟩⟩
    obtain ⟨o1,s1,s2,s3,s4⟩:=hst
    obtain ⟨o,p1,p2,p3,p4⟩:=ih (j+1) o1 (by omega) s2 (by omega)
    refine ⟨o,by rw [aiW s1];exact p1,p2,p3,fun v=>?_⟩
    rw [p4,s4,←List.getElem_cons_drop hj']
    simp only [List.mem_cons,exists_eq_or_imp]
    constructor
    ·rintro ((h | ⟨h,h'⟩) | ⟨h,h'⟩)
     ·exact .inl h
     ·exact .inr ⟨h,.inl h'⟩
     ·exact .inr ⟨h,.inr h'⟩
    ·rintro (h | ⟨h,h' | h'⟩)
     ·exact .inl (.inl h)
     ·exact .inl (.inr ⟨h,h'⟩)
     ·exact .inr ⟨h,h'⟩
  obtain ⟨o,p1,p2,p3,p4⟩:=lp 4 0 out (by omega) h1 (by omega)
  rw [List.drop_zero] at p4
  exact ⟨o,p1,p2,p3,p4⟩
 have lp:∀(r i:Nat) (out:List Int),i+r=t.Cells.length→out.Pairwise (· < ·)→out.length≤4*i→(∀v,v∈out↔PNT t i k v)→∃o,aiM (akM k t) ((i:Int),out)=some o∧o.Pairwise (· < ·)∧o.length≤1000∧∀v,v∈o↔PNT t t.Cells.length k v:=by
  intro r
  induction r with
  | zero=>
   intro i out hi h1 h2 h3
   have e:i=t.Cells.length:=by omega
   subst e
   refine ⟨out,aiN ?_,h1,by omega,h3⟩
   unfold akM
   simp only
   rw [if_neg (by omega)]
  | succ r ih=>
   intro i out hi h1 h2 h3
   have hi':i<t.Cells.length:=by omega
   obtain ⟨n1,_⟩:=atM hT (i:=(i:Int)) (by omega) (by omega)
   obtain ⟨o,p1,p2,p3,p4⟩:=inner i hi' out h1 h2
   have st:akM k t ((i:Int),out)=some (.inl (((i+1:Nat):Int),o)):=by
    unfold akM
    simp only
    rw [if_pos (by omega),n1,Option.bind_some,p1,Option.bind_some,aiZ (by omega)]
   rw [aiW st]
   refine ih (i+1) o (by omega) p2 p3 fun v=>?_
   rw [p4,h3]
   unfold PNT
   constructor
   ·rintro (⟨q,hq,h⟩ | h)
    ·exact ⟨q,by omega,h⟩
    ·exact ⟨i,by omega,h⟩
   ·rintro ⟨q,hq,h⟩
    by_cases c:q<i
    ·exact .inl ⟨q,c,h⟩
    ·obtain rfl:q=i:=by omega
     exact .inr h
 obtain ⟨o,p1,p2,p3,p4⟩:=lp t.Cells.length 0 [] (by omega) .nil (by simp) (fun v=>⟨fun h=>by simp at h,fun ⟨q,hq,_⟩=>by omega⟩)
 refine ⟨o,?_,p2,p3,p4⟩
 unfold alM
 have p1:aiM (akM k t) (0,[])=some o:=p1
 rw [p1]
 rfl
def aAs (t:aiE) (n I:Nat) (rows:List (List Int)):Prop:=rows.length=n∧∀k:Nat,k<n→(rows.getD k []).length≤4*I∧∀v,v∈rows.getD k []↔PNT t I (k:Int) v
theorem aAt {i:Nat} (hi:i<t.Cells.length) {z:aol} (hz:ajH t (i:Int)=some z) (hzm:∀y,y∈[z.e0,z.e1,z.e2,z.e3]↔y∈nbS t (i:Int)) (hzr:∀y∈nbS t (i:Int),0≤y∧y<t.Cells.length) {rows:List (List Int)} (hr:aAs t n i rows):
 ∃o,aiM (ai6 t (gc t (i:Int)) z) (0,rows)=some o∧aAs t n (i+1) o:=by
 have hm:=hV.tb.mul
 obtain ⟨g0,g1⟩:=aCl hV (y:=(i:Int)) (by omega) (by omega)
 obtain ⟨q,hq⟩:∃q:Nat,gc t (i:Int)=(q:Int):=⟨(gc t (i:Int)).toNat,by omega⟩
 have hqn:q<n:=by omega
 have hX:∀y∈[z.e0,z.e1,z.e2,z.e3],0≤y∧y<t.Cells.length:=fun y hy=>hzr y ((hzm y).1 hy)
 have hX4:[z.e0,z.e1,z.e2,z.e3].length=4:=rfl
 rw [hq]
 have lp:∀(r j:Nat) (rw_:List (List Int)),j+r=4→rw_.length=n→(∀k,k≠q→rw_.getD k []=rows.getD k [])→(rw_.getD q []).length≤4*i+j→(∀v,v∈rw_.getD q []↔v∈rows.getD q []∨∃y∈[z.e0,z.e1,z.e2,z.e3].take j,gc t y≠(q:Int)∧v=gc t y)→
  ∃o,aiM (ai6 t (q:Int) z) ((j:Int),rw_)=some o∧o.length=n∧(∀k,k≠q→o.getD k []=rows.getD k [])∧(o.getD q []).length≤4* (i+1)∧∀v,v∈o.getD q []↔v∈rows.getD q []∨∃y∈[z.e0,z.e1,z.e2,z.e3],gc t y≠(q:Int)∧v=gc t y:=by
  generalize hE:[z.e0,z.e1,z.e2,z.e3]=X at hX hX4
  intro r
  induction r with
  | zero=>
   intro j rw_ hj h1 h2 h3 h4
   rw [List.take_of_length_le (by omega)] at h4
   refine ⟨rw_,aiN ?_,h1,h2,by omega,h4⟩
   unfold ai6
   simp only
   rw [if_neg (by omega)]
  | succ r ih=>
   intro j rw_ hj h1 h2 h3 h4
   have hj':j<X.length:=by omega
   obtain ⟨y0,y1⟩:=hX _ (List.getElem_mem hj')
   have hrq:rd rw_ (q:Int)=some (rw_.getD q []):=by
    rw [akn (by omega),List.getD_eq_getElem?_getD,List.getElem?_eq_getElem (by omega)];rfl
   by_cases c:gc t X[j]=(q:Int)
   ·have st:ai6 t (q:Int) z ((j:Int),rw_)=some (.inl (((j+1:Nat):Int),rw_)):=by
     unfold ai6 ajD
     simp only
     rw [if_pos (by omega),hE,akn hj',Option.bind_some,arL y0 y1,Option.bind_some,if_neg (fun h=>h c),aiZ (by omega)]
    rw [aiW st]
    refine ih (j+1) rw_ (by omega) h1 h2 (by omega) fun v=>?_
    rw [h4,List.take_succ_eq_append_getElem hj']
    simp only [List.mem_append,List.mem_singleton]
    constructor
    ·rintro (h | ⟨y,hy,h⟩)
     ·exact .inl h
     ·exact .inr ⟨y,.inl hy,h⟩
    ·rintro (h | ⟨y,hy | hy,h⟩)
     ·exact .inl h
     ·exact .inr ⟨y,hy,h⟩
     ·subst hy;exact absurd c h.1
   ·have st:ai6 t (q:Int) z ((j:Int),rw_)=some (.inl (((j+1:Nat):Int),rw_.set q (rw_.getD q []++[gc t X[j]]))):=by
     unfold ai6 ajD
     simp only
     rw [if_pos (by omega),hE,akn hj',Option.bind_some,arL y0 y1,Option.bind_some,if_pos c,hrq,Option.bind_some,arh (by rw [List.length_singleton];omega),Option.bind_some,Option.bind_some,aiZ (by omega),Int.toNat_natCast]
    have hset:∀k,(rw_.set q (rw_.getD q []++[gc t X[j]])).getD k []=if k=q then rw_.getD q []++[gc t X[j]] else rw_.getD k []:=by
     intro k
     rw [List.getD_eq_getElem?_getD,List.getElem?_set]
     by_cases e:q=k
     ·subst e
      rw [if_pos rfl,if_pos (by omega),if_pos rfl];rfl
     ·rw [if_neg e,if_neg (fun h=>e h.symm),List.getD_eq_getElem?_getD]
    rw [aiW st]
    refine ih (j+1) _ (by omega) (by rw [List.length_set];exact h1) (fun k hk=>by rw [hset,if_neg hk];exact h2 k hk) (by rw [hset,if_pos rfl,List.length_append,List.length_singleton];omega) fun v=>?_
    rw [hset,if_pos rfl,List.mem_append,List.mem_singleton,h4,List.take_succ_eq_append_getElem hj']
    simp only [List.mem_append,List.mem_singleton]
    constructor
    ·rintro ((h | ⟨y,hy,h⟩) | h)
     ·exact .inl h
     ·exact .inr ⟨y,.inl hy,h⟩
     ·exact .inr ⟨_,.inr rfl,c,h⟩
    ·rintro (h | ⟨y,hy | hy,h⟩)
     ·exact .inl (.inl h)
     ·exact .inl (.inr ⟨y,hy,h⟩)
     ·subst hy;exact .inr h.2
 obtain ⟨o,p1,p2,p3,p4,p5⟩:=lp 4 0 rows (by omega) hr.1 (fun _ _=>rfl) (by have:=(hr.2 q hqn).1;omega) (fun v=>by simp)
 refine ⟨o,p1,p2,fun k hk=>?_⟩
 by_cases e:k=q
 ·subst e
  refine ⟨p4,fun v=>?_⟩
  rw [p5,(hr.2 k hk).2]
  unfold PNT
  constructor
  ·rintro (⟨j,hj,h⟩ | ⟨y,hy,h⟩)
   ·exact ⟨j,by omega,h⟩
   ·exact ⟨i,by omega,hq,y,(hzm y).1 hy,h⟩
  ·rintro ⟨j,hj,h1,y,hy,h⟩
   by_cases c:j<i
   ·exact .inl ⟨j,c,h1,y,hy,h⟩
   ·obtain rfl:j=i:=by omega
    exact .inr ⟨y,(hzm y).2 hy,h⟩
 ·rw [p3 k e]
  refine ⟨by have:=(hr.2 k hk).1;omega,fun v=>?_⟩
  rw [(hr.2 k hk).2]
  unfold PNT
  constructor
  ·rintro ⟨j,hj,h⟩
   exact ⟨j,by omega,h⟩
  ·rintro ⟨j,hj,h1,h⟩
   by_cases c:j<i
   ·exact ⟨j,c,h1,h⟩
   ·obtain rfl:j=i:=by omega
    exact absurd (by omega) e
end
noncomputable def nrT (t:aiE) (k:Int):List Int:=(alM t k).getD []
noncomputable abbrev NT2 (t:aiE) (n:Nat):List (List Int):=(List.range n).map fun k:Nat=>nrT t (k:Int)
theorem asJ (t:aiE) (n:Nat):(NT2 t n).length=n:=by rw [List.length_map,List.length_range]
section
variable {t:aiE} {n:Nat} (hV:VT t n)
include hV
theorem awP (k:Int):alM t k=some (nrT t k)∧(nrT t k).Pairwise (· < ·)∧(nrT t k).length≤1000∧∀v,v∈nrT t k↔PNT t t.Cells.length k v:=by
 obtain ⟨R,h1,h2,h3,h4⟩:=aBT hV k
 have e:nrT t k=R:=by unfold nrT;rw [h1];rfl
 rw [e]
 exact ⟨h1,h2,h3,h4⟩
theorem aEx (k:Int):∀v∈nrT t k,0≤v∧v<n:=by
 intro v hv
 obtain ⟨i,hi,_,y,hy,_,rfl⟩:=((awP hV k).2.2.2 v).1 hv
 obtain ⟨_,_,n3,_⟩:=atM hV.tb (i:=(i:Int)) (by omega) (by omega)
 exact aCl hV (n3 y hy).1 (n3 y hy).2
theorem ayk (k:Nat):(∀x∈(NT2 t n).getD k [],0≤x)∧((NT2 t n).getD k []).length≤1048576:=by
 rw [List.getD_eq_getElem?_getD,List.getElem?_map]
 by_cases c:k<n
 ·rw [List.getElem?_range c]
  exact ⟨fun x hx=>(aEx hV _ x hx).1,by have:=(awP hV (k:Int)).2.2.1;show (nrT t (k:Int)).length≤_;omega⟩
 ·rw [List.getElem?_eq_none (by rw [List.length_range];omega)]
  exact ⟨fun x hx=>by simp at hx,by simp⟩
theorem aBU:aiM (ako t (n:Int)) (0,([]:List (List Int)))=some (NT2 t n):=by
 have hn:=hV.n2
 refine amr (fun k:Nat=>((k:Int),NT2 t k)) n (fun k hk=>?_) ?_
 ·unfold ako
  simp only
  rw [if_pos (by omega),(awP hV (k:Int)).1,Option.bind_some,arh (by rw [List.length_singleton,asJ];omega),Option.bind_some,aiZ (by omega),NT2,NT2,List.range_succ,List.map_append]
  rfl
 ·unfold ako
  simp only
  rw [if_neg (by omega)]
theorem aBV:akQ t=some (NT2 t n):=by
 have hn:=hV.n2
 have hm:=hV.tb.mul
 have hmk:mkl 24 (n:Int) ([]:List Int)=some (List.replicate n []):=by
  unfold mkl
  rw [if_pos (by omega),Int.toNat_natCast]
 have h0:aAs t n 0 (List.replicate n ([]:List Int)):=by
  refine ⟨by simp,fun k hk=>?_⟩
  have e:(List.replicate n ([]:List Int)).getD k []=[]:=by
   rw [List.getD_eq_getElem?_getD,List.getElem?_replicate,if_pos hk];rfl
  rw [e]
  exact ⟨by simp,fun v=>⟨fun h=>by simp at h,fun ⟨i,hi,_⟩=>by omega⟩⟩
 have lp:∀(r i:Nat) (rows:List (List Int)),i+r=t.Cells.length→aAs t n i rows→∃o,aiM (aju t) ((i:Int),rows)=some o∧aAs t n t.Cells.length o:=by
  intro r
  induction r with
  | zero=>
   intro i rows hi h
   have e:i=t.Cells.length:=by omega
   subst e
   refine ⟨rows,aiN ?_,h⟩
   unfold aju
   simp only
   rw [if_neg (by omega)]
  | succ r ih=>
   intro i rows hi h
   have hi':i<t.Cells.length:=by omega
   obtain ⟨_,_,n3,z,z1,z2⟩:=atM hV.tb (i:=(i:Int)) (by omega) (by omega)
   obtain ⟨o,p1,p2⟩:=aAt hV hi' z1 z2 n3 h
   have st:aju t ((i:Int),rows)=some (.inl (((i+1:Nat):Int),o)):=by
    unfold aju
    simp only
    rw [if_pos (by omega),arL (by omega) (by omega),Option.bind_some,z1,Option.bind_some,p1,Option.bind_some,aiZ (by omega)]
   rw [aiW st]
   exact ih (i+1) o (by omega) p2
 obtain ⟨rows,p1,p2⟩:=lp t.Cells.length 0 _ (by omega) h0
 have p1:aiM (aju t) (0,List.replicate n ([]:List Int))=some rows:=p1
 have hrl:=p2.1
 have hgl:∀k (hk:k<rows.length),rows[k].length≤1000∧∀v,v∈rows[k]↔PNT t t.Cells.length (k:Int) v:=by
  intro k hk
  have h:=p2.2 k (by omega)
  have e:rows.getD k []=rows[k]:=by rw [List.getD_eq_getElem?_getD,List.getElem?_eq_getElem hk];rfl
  rw [e] at h
  exact ⟨by omega,h.2⟩
 have l14:aiM (ajC rows) (0,rows)=some (rows.map fun r=>cmpL (sortL r)):=by
  have q:aiM (ajC rows) (((0:Nat):Int),(rows.take 0).map (fun r=>cmpL (sortL r))++rows.drop 0)=some (rows.map fun r=>cmpL (sortL r)):=by
   refine amr (fun k:Nat=>((k:Int),(rows.take k).map (fun r=>cmpL (sortL r))++rows.drop k)) rows.length (fun k hk=>?_) ?_
   ·have hl1:((rows.take k).map fun r=>cmpL (sortL r)).length=k:=by rw [List.length_map,List.length_take];omega
    have hd:rows.drop k=rows[k]::rows.drop (k+1):=(List.getElem_cons_drop hk).symm
    have get:∀r:List Int,rd ((rows.take k).map (fun r=>cmpL (sortL r))++r::rows.drop (k+1)) (k:Int)=some r:=by
     intro r
     rw [avi,List.getElem?_append_right (by omega),hl1,Nat.sub_self]
     rfl
    have set:∀r r':List Int,((rows.take k).map (fun r=>cmpL (sortL r))++r::rows.drop (k+1)).set k r'=(rows.take k).map (fun r=>cmpL (sortL r))++r'::rows.drop (k+1):=by
     intro r r'
     rw [List.set_append_right _ _ (by omega),hl1,Nat.sub_self]
     rfl
    have hs:=(hgl k hk).1
    have hs1:awt rows[k]=some (sortL rows[k]):=by unfold awt;rw [if_pos (by omega)]
    have hs2:az9 (sortL rows[k])=some (cmpL (sortL rows[k])):=by unfold az9;rw [if_pos (by rw [auF];omega)]
    unfold ajC
    simp only
    rw [if_pos (by omega),hd,get,Option.bind_some,hs1,Option.bind_some,Int.toNat_natCast,set,get,Option.bind_some,hs2,Option.bind_some,Option.bind_some,set,aiZ (by omega),List.take_succ_eq_append_getElem hk,List.map_append,List.append_assoc]
    rfl
   ·unfold ajC
    simp only
    rw [if_neg (by omega),List.take_of_length_le (Nat.le_refl _),List.drop_of_length_le (Nat.le_refl _),List.append_nil]
  exact q
 unfold akQ
 rw [hV.ti,Option.bind_some,hmk,Option.bind_some,p1,Option.bind_some,l14,Option.bind_some]
 congr 1
 refine List.ext_getElem (by rw [List.length_map,asJ,hrl]) fun k h1 h2=>?_
 rw [asJ] at h2
 rw [List.getElem_map,List.getElem_map,List.getElem_range]
 refine aAr (atL _ (az8 _)) (awP hV (k:Int)).2.1 fun v=>?_
 rw [arK,(atv _).mem_iff,(hgl k (by omega)).2,(awP hV (k:Int)).2.2.2]
end
theorem aDn (a b:Int):alF a b=some (max2 a b):=by
 unfold alF
 rcases akf a b with h | h<;>rw [h.2]
 ·rw [if_neg (by omega)]
 ·by_cases c:a>b
  ·rw [if_pos c]
  ·rw [if_neg c];congr 1;omega
theorem axD (a b:Int):anX a b=some (min2 a b):=by
 unfold anX
 rcases amY a b with h | h<;>rw [h.2]
 ·rw [if_neg (by omega)]
 ·by_cases c:a<b
  ·rw [if_pos c]
  ·rw [if_neg c];congr 1;omega
abbrev FTi:=(aiP×(List Int)×Int×Int)→Option ((List Int)×Int×aiP)
theorem aEy (x:aiP) (F:List Int) (a b:Int):Fs (fun self:FTi=>ajk self x F a b):=by
 have k14:∀a b c,Fs (fun self:FTi=>ajr self a b c):=by
  intros
  unfold ajr
  exact Fs.const _
 unfold ajk
 refine Fs.ite (Fs.const _) (Fs.ite (Fs.const _) (Fs.bind (Fs.loop (fun s=>?_) _) fun _=>Fs.const _))
 obtain ⟨a1,a2,a3⟩:=s
 unfold ajh
 exact Fs.ite (Fs.bind (Fs.const _) fun _=>Fs.bind (Fs.const _) fun _=>Fs.ite (k14 _ _ _) (Fs.bind (Fs.const _) fun _=>Fs.bind (Fs.const _) fun _=>Fs.bind (Fs.app _) fun _=>Fs.ite (Fs.const _) (k14 _ _ _))) (Fs.const _)
noncomputable abbrev STi:FTi:=fun s=>akg s.1 s.2.1 s.2.2.1 s.2.2.2
theorem aCm (x:aiP) (F:List Int) (a b:Int):akg x F a b=ajk STi x F a b:=by
 show apG _ _=_
 rw [avb]
 ·rfl
 ·rintro ⟨x,F,a,b⟩
  exact aEy x F a b
abbrev FVi:=(aiL×Int)→Option (Bool×aiL)
theorem aEz (x:aiL) (a:Int):Fs (fun self:FVi=>ajg self x a):=by
 have k7:∀a b c d e f,Fs (fun self:FVi=>aja self a b c d e f):=by
  intros
  unfold aja
  exact Fs.const _
 unfold ajg
 refine Fs.ite (Fs.const _) (Fs.bind (Fs.loop (fun s=>?_) _) fun _=>Fs.const _)
 obtain ⟨a1,a2,a3,a4,a5,a6⟩:=s
 unfold aiU
 refine Fs.bind (Fs.const _) fun _=>Fs.ite (Fs.bind (Fs.loop (fun s=>?_) _) fun _=>Fs.ite (Fs.bind (Fs.const _) fun _=>Fs.bind (Fs.const _) fun _=>Fs.bind (Fs.app _) fun _=>Fs.ite (Fs.const _) (Fs.bind (Fs.const _) fun _=>k7 _ _ _ _ _ _)) (k7 _ _ _ _ _ _)) (Fs.const _)
 obtain ⟨b1,b2⟩:=s
 unfold ai7
 exact Fs.const _
noncomputable abbrev SVi:FVi:=fun s=>aj3 s.1 s.2
theorem aCn (x:aiL) (a:Int):aj3 x a=ajg SVi x a:=by
 show apG _ _=_
 rw [avb]
 ·rfl
 ·rintro ⟨x,a⟩
  exact aEz x a
def ftT (G:List Int) (c:Int) (m:Int):Bool:=decide (m≥(G.length:Int))||(G.getD m.toNat 0 != c)
def tgo (f:List Int→Int→Int→Int×List Int×Int) (nr:List Int) (G:List Int) (used:Int):Nat→Nat→Int→Int×List Int×Int
 | 0,_,L=>(3,[],L)
 | k+1,i,L=>if nr.all (ftT G (i:Int))=true then
  (if (f (G++[(i:Int)]) (max2 used ((i:Int)+1)) L).1=3 then tgo f nr G used k (i+1) (f (G++[(i:Int)]) (max2 used ((i:Int)+1)) L).2.2 else f (G++[(i:Int)]) (max2 used ((i:Int)+1)) L)
  else tgo f nr G used k (i+1) L
def tsr (N:List (List Int)) (most:Int):Nat→List Int→Int→Int→Int×List Int×Int
 | 0,G,used,L=>if L=0 then (5,[],0) else (0,G,L - 1)
 | m+1,G,used,L=>if L=0 then (5,[],0) else tgo (tsr N most m) (N.getD G.length []) G used (min2 most (used+1)).toNat 0 (L - 1)
def RTp (L:Int) (r:Int×List Int×Int):Prop:=0≤r.2.2∧r.2.2≤L∧(r.1=0∨(r.1=5∧r.2.1=[]∧r.2.2=0)∨(r.1=3∧r.2.1=[]))
theorem aAu {f:List Int→Int→Int→Int×List Int×Int} {nr G:List Int} {used:Int} (hf:∀G u L,0≤L→RTp L (f G u L)):∀(k i:Nat) (L:Int),0≤L→RTp L (tgo f nr G used k i L):=by
 intro k
 induction k with
 | zero=>intro i L h;exact ⟨h,Int.le_refl _,.inr (.inr ⟨rfl,rfl⟩)⟩
 | succ k ih=>
  intro i L h
  unfold tgo
  split
  ·have h1:=hf (G++[(i:Int)]) (max2 used ((i:Int)+1)) L h
   split
   ·have h2:=ih (i+1) _ h1.1
    exact ⟨h2.1,by have:=h2.2.1;have:=h1.2.1;omega,h2.2.2⟩
   ·exact h1
  ·exact ih (i+1) L h
theorem atP {N:List (List Int)} {most:Int}:∀(m:Nat) (G:List Int) (used L:Int),0≤L→RTp L (tsr N most m G used L):=by
 intro m
 induction m with
 | zero=>
  intro G used L h
  unfold tsr
  split
  ·exact ⟨Int.le_refl _,h,.inr (.inl ⟨rfl,rfl,rfl⟩)⟩
  ·rename_i hL
   exact ⟨by show 0≤L - 1;omega,by show L - 1≤L;omega,.inl rfl⟩
 | succ m ih=>
  intro G used L h
  unfold tsr
  split
  ·exact ⟨Int.le_refl _,h,.inr (.inl ⟨rfl,rfl,rfl⟩)⟩
  ·rename_i hL
   have:=aAu (f:=tsr N most m) (nr:=N.getD G.length []) (G:=G) (used:=used) (fun G u L hL=>ih G u L hL) (min2 most (used+1)).toNat 0 (L - 1) (by omega)
   exact ⟨this.1,by have:=this.2.1;omega,this.2.2⟩
theorem aBW {f:List Int→Int→Int→Int×List Int×Int} {nr G:List Int} {used:Int} {n:Nat} (hf:∀t u L,(f (G++[t]) u L).1=0→(f (G++[t]) u L).2.1.length=n):∀(k i:Nat) (L:Int),(tgo f nr G used k i L).1=0→(tgo f nr G used k i L).2.1.length=n:=by
 intro k
 induction k with
 | zero=>intro i L h;cases h
 | succ k ih=>
  intro i L
  unfold tgo
  split
  ·split
   ·exact ih _ _
   ·exact hf _ _ _
  ·exact ih _ _
theorem ayl {N:List (List Int)} {most:Int}:∀(m:Nat) (G:List Int) (used L:Int),(tsr N most m G used L).1=0→(tsr N most m G used L).2.1.length=G.length+m:=by
 intro m
 induction m with
 | zero=>
  intro G used L
  unfold tsr
  split
  ·intro h;cases h
  ·intro _;rfl
 | succ m ih=>
  intro G used L
  unfold tsr
  split
  ·intro h;cases h
  ·intro h
   exact aBW (n:=G.length+(m+1)) (fun t u L h=>by rw [ih _ _ _ h,List.length_append,List.length_singleton];omega) _ _ _ h
theorem aBX {N:List (List Int)} {most:Int} (hN:∀k,∀x∈N.getD k [],0≤x):∀(m:Nat) (G:List Int) (used L:Int),(∀x∈G,x<used)→0≤used→used≤G.length→(G.length:Int)+m≤most→(tsr N most m G used L).1≠3:=by
 intro m
 induction m with
 | zero=>
  intro G used L _ _ _ _
  unfold tsr
  split
  ·decide
  ·show (0:Int)≠3
   decide
 | succ m ih=>
  intro G used L h1 h2 h3 h4
  unfold tsr
  split
  ·decide
  ·have e:(min2 most (used+1)).toNat=used.toNat+1:=by
    rcases amY most (used+1) with h | h<;>rw [h.2]<;>omega
   rw [e]
   have lp:∀(k i:Nat) (L:Int),i+k=used.toNat→(tgo (tsr N most m) (N.getD G.length []) G used (k+1) i L).1≠3:=by
    have aBY:∀(i:Nat) (L:Int),(i:Int)≤used→(tsr N most m (G++[(i:Int)]) (max2 used ((i:Int)+1)) L).1≠3:=by
     intro i L hi
     refine ih _ _ _ (fun x hx=>?_) ?_ ?_ ?_
     ·rcases List.mem_append.1 hx with h | h
      ·have:=h1 x h
       rcases akf used ((i:Int)+1) with q | q<;>rw [q.2]<;>omega
      ·rw [List.mem_singleton.1 h]
       rcases akf used ((i:Int)+1) with q | q<;>rw [q.2]<;>omega
     ·rcases akf used ((i:Int)+1) with q | q<;>rw [q.2]<;>omega
     ·rw [List.length_append,List.length_singleton]
      rcases akf used ((i:Int)+1) with q | q<;>rw [q.2]<;>omega
     ·rw [List.length_append,List.length_singleton];omega
    intro k
    induction k with
    | zero=>
     intro i L hi
     unfold tgo
     have hall:(N.getD G.length []).all (ftT G (i:Int))=true:=by
      refine List.all_eq_true.2 fun x hx=>?_
      have hx0:=hN _ x hx
      unfold ftT
      by_cases c:x≥(G.length:Int)
      ·rw [decide_eq_true c];rfl
      ·rw [decide_eq_false c,Bool.false_or]
       have:G.getD x.toNat 0≠(i:Int):=by
        rw [List.getD_eq_getElem?_getD]
        cases hg:G[x.toNat]? with
        | none=>
         have:=List.getElem?_eq_none_iff.1 hg
         omega
        | some y=>
         have hy:=h1 y (List.mem_of_getElem? hg)
         show y≠(i:Int)
         omega
       simpa using this
     rw [if_pos hall,if_neg (aBY i L (by omega))]
     exact aBY i L (by omega)
    | succ k ihk=>
     intro i L hi
     unfold tgo
     split
     ·rw [if_neg (aBY i L (by omega))]
      exact aBY i L (by omega)
     ·exact ihk (i+1) L (by omega)
   exact lp used.toNat 0 (L - 1) (by omega)
section
variable {N:List (List Int)} (hN:∀k,∀x∈N.getD k [],0≤x) (hl:∀k,(N.getD k []).length≤1048576) (hn:N.length≤1048576)
theorem nrd {k:Nat} (h:k<N.length):rd N (k:Int)=some (N.getD k []):=by
 rw [akn h,List.getD_eq_getElem?_getD,List.getElem?_eq_getElem h];rfl
include hN hl in
theorem aDo {G:List Int} (hG:G.length≤1048576) (c:Int) (k:Nat):
 ajj (N.getD k []) (fun a0=>aiX a0 (G.length:Int) G c)=some (!(N.getD k []).all (ftT G c)):=by
 have hp:∀x∈N.getD k [],aiX x (G.length:Int) G c=some (!ftT G c x):=by
  intro x hx
  have h0:=hN k x hx
  obtain ⟨q,rfl⟩:∃q:Nat,x=(q:Int):=⟨x.toNat,by omega⟩
  unfold aiX ftT
  by_cases c1:(q:Int) < (G.length:Int)
  ·have hq:q<G.length:=by omega
   rw [if_pos c1,akn hq,decide_eq_false (by omega)]
   have e:G.getD ((q:Int)).toNat 0=G[q]:=by rw [Int.toNat_natCast,List.getD_eq_getElem?_getD,List.getElem?_eq_getElem hq];rfl
   rw [e]
   simp only [Option.bind_some,Bool.false_or]
   cases h:(G[q]==c)<;>simp [bne,h]
  ·rw [if_neg c1,decide_eq_true (by omega)]
   rfl
 unfold ajj ajY
 generalize hR:N.getD k []=R at hp
 have hRl:R.length≤1048576:=by rw [←hR];exact hl k
 rcases atJ (f:=aji (fun a0=>aiX a0 (G.length:Int) G c) R) R (fun x=>!ftT G c x) (fun i=>(i:Int)) (by omega) (fun i hi=>by
  unfold aji
  rw [if_pos (by omega),akn hi,Option.bind_some]
  show ((aiX R[i] (G.length:Int) G c).bind _)=_
  rw [hp _ (List.getElem_mem hi)]
  rfl) (by unfold aji;rw [if_neg (by omega)]) with ⟨a,b⟩ | ⟨i,hi,a,_,b⟩
 ·rw [b]
  have:R.all (ftT G c)=true:=List.all_eq_true.2 fun x hx=>by simpa using a x hx
  rw [this]
  rfl
 ·rw [b]
  have:R.all (ftT G c)=false:=by
   rw [List.all_eq_false]
   exact ⟨_,List.getElem_mem hi,by simpa using a⟩
  rw [this]
  show some (decide ((i:Int)≥0))=_
  rw [decide_eq_true (by omega)]
  rfl
include hN hl hn
theorem aAv (most:Int) (hm0:0≤most) (hm:most≤1048576):∀(m:Nat) (G:List Int) (used L:Int),G.length+m=N.length→0≤L→L≤20000→0≤used→used≤1048576+G.length→
 akg ⟨N,L⟩ G used most=some ((tsr N most m G used L).2.1,(tsr N most m G used L).1,⟨N,(tsr N most m G used L).2.2⟩):=by
 intro m
 induction m with
 | zero=>
  intro G used L hG h0 h1 u0 u1
  rw [aCm]
  unfold ajk tsr
  simp only
  by_cases c:L=0
  ·rw [if_pos c,if_pos c,c]
  ·rw [if_neg c,if_neg c,if_pos (by omega),alv (n:=L - 1) (by omega) (by omega)]
 | succ m ih=>
  intro G used L hG h0 h1 u0 u1
  rw [aCm]
  unfold ajk tsr
  simp only
  by_cases c:L=0
  ·rw [if_pos c,if_pos c,c]
  rw [if_neg c,if_neg c,if_neg (by omega),alv (n:=L - 1) (by omega) (by omega)]
  have hk:∀i:Nat,(i< (min2 most (used+1)).toNat)↔((i:Int) <most∧(i:Int)≤used):=by
   intro i
   rcases amY most (used+1) with h | h<;>rw [h.2]<;>omega
  generalize (min2 most (used+1)).toNat=K at hk
  have lp:∀(k i:Nat) (L1:Int),i+k=K→0≤L1→L1≤20000→
   aiM (ajh STi G most used) (N,L1,(i:Int))=
    some (if (tgo (tsr N most m) (N.getD G.length []) G used k i L1).1=3 then .inl (N,(tgo (tsr N most m) (N.getD G.length []) G used k i L1).2.2)
     else .inr ((tgo (tsr N most m) (N.getD G.length []) G used k i L1).2.1,(tgo (tsr N most m) (N.getD G.length []) G used k i L1).1,⟨N,(tgo (tsr N most m) (N.getD G.length []) G used k i L1).2.2⟩)):=by
   intro k
   induction k with
   | zero=>
    intro i L1 hi g0 g1
    refine aiN ?_
    unfold ajh
    simp only
    rw [if_neg (fun h=>by have:=(hk i).2 h;omega)]
    rfl
   | succ k ihk=>
    intro i L1 hi g0 g1
    obtain ⟨i1,i2⟩:=(hk i).1 (by omega)
    have st:ajh STi G most used (N,L1,(i:Int))=if (N.getD G.length []).all (ftT G (i:Int))=true then
     (STi (⟨N,L1⟩,G++[(i:Int)],max2 used ((i:Int)+1),most)).bind fun x67=>if x67.2.1≠3 then some (.inr (.inr (x67.1,x67.2.1,x67.2.2))) else some (.inl (x67.2.2.near,x67.2.2.left,((i+1:Nat):Int)))
     else some (.inl (N,L1,((i+1:Nat):Int))):=by
     unfold ajh ajr
     simp only
     rw [if_pos ⟨i1,i2⟩,nrd (by omega),Option.bind_some,aDo hN hl (by omega),Option.bind_some,aiZ (by omega)]
     cases (N.getD G.length []).all (ftT G (i:Int)) with
     | false=>rfl
     | true=>
      rw [if_neg (by decide),if_pos rfl,arh (by simp only [List.length_nil];omega),Option.bind_some,List.nil_append,arh (by rw [List.length_singleton];omega),Option.bind_some,show ((i+1:Nat):Int)=(i:Int)+1 by omega]
    unfold tgo
    by_cases c1:(N.getD G.length []).all (ftT G (i:Int))=true
    ·rw [if_pos c1] at st
     simp only [if_pos c1]
     have hr:=ih (G++[(i:Int)]) (max2 used ((i:Int)+1)) L1 (by rw [List.length_append,List.length_singleton];omega) g0 g1 (by rcases akf used ((i:Int)+1) with q | q<;>rw [q.2]<;>omega) (by rw [List.length_append,List.length_singleton];rcases akf used ((i:Int)+1) with q | q<;>rw [q.2]<;>omega)
     have hR:=atP (N:=N) (most:=most) m (G++[(i:Int)]) (max2 used ((i:Int)+1)) L1 g0
     generalize tsr N most m (G++[(i:Int)]) (max2 used ((i:Int)+1)) L1=r at hr hR
     have hr:STi (⟨N,L1⟩,G++[(i:Int)],max2 used ((i:Int)+1),most)=some (r.2.1,r.1,⟨N,r.2.2⟩):=hr
     rw [hr,Option.bind_some] at st
     by_cases c3:r.1=3
     ·simp only [c3,ne_eq,not_true,if_false] at st
      simp only [if_pos c3]
      rw [aiW st]
      exact ihk (i+1) r.2.2 (by omega) hR.1 (by have:=hR.2.1;omega)
     ·simp only [ne_eq,c3,not_false_eq_true,if_true] at st
      simp only [if_neg c3]
      exact aiN st
    ·rw [if_neg c1] at st
     simp only [if_neg c1]
     rw [aiW st]
     exact ihk (i+1) L1 (by omega) g0 g1
  have q1:aiM (ajh STi G most used) (N,L - 1,0)=_:=lp K 0 (L - 1) (by omega) (by omega) (by omega)
  have hR:=aAu (f:=tsr N most m) (nr:=N.getD G.length []) (G:=G) (used:=used) (fun G u L hL=>atP m G u L hL) K 0 (L - 1) (by omega)
  rw [q1]
  generalize tgo (tsr N most m) (N.getD G.length []) G used K 0 (L - 1)=r at hR
  by_cases c3:r.1=3
  ·have:r.2.1=[]:=by
    rcases hR.2.2 with h | h | h
    ·omega
    ·omega
    ·exact h.2
   rw [if_pos c3,this,c3]
   rfl
  ·rw [if_neg c3]
   rfl
omit hN hn in
theorem aAw {s0:FVi} {x0:aiL} {G:List Int} (hN:∀k,∀x∈N.getD k [],0≤x) (hx:x0.aiV=G) (hk:G.length<N.length) (c:Int):
 aiM (ai7 s0 c x0 N G) (true,0)=some ((N.getD G.length []).all (ftT G c)):=by
 have hrd:=nrd hk
 have hll:=hl G.length
 have hNn:=hN G.length
 generalize N.getD G.length []=R at hrd hll hNn
 have lp:∀(k j:Nat) (fits:Bool),j+k=R.length→aiM (ai7 s0 c x0 N G) (fits,(j:Int))=some (fits&&(R.drop j).all (ftT G c)):=by
  intro k
  induction k with
  | zero=>
   intro j fits hj
   refine aiN ?_
   unfold ai7
   simp only
   rw [hx,hrd,Option.bind_some,if_neg (by omega),List.drop_of_length_le (by omega)]
   simp
  | succ k ih=>
   intro j fits hj
   have hj':j<R.length:=by omega
   have st:ai7 s0 c x0 N G (fits,(j:Int))=some (.inl (fits&&ftT G c R[j],((j+1:Nat):Int))):=by
    unfold ai7
    simp only
    rw [hx,hrd,Option.bind_some,if_pos (by omega),aiZ (by omega)]
    cases fits with
    | false=>rfl
    | true=>
     have h0:=hNn _ (List.getElem_mem hj')
     rw [if_pos rfl]
     simp only [Option.bind_some]
     rw [akn hj']
     simp only [Option.bind_some]
     generalize R[j]=q at h0
     obtain ⟨q,rfl⟩:∃k:Nat,q=(k:Int):=⟨q.toNat,by omega⟩
     unfold ftT
     by_cases c1:(q:Int)≥(G.length:Int)
     ·rw [if_pos c1,decide_eq_true c1]
      rfl
     ·have hq:q<G.length:=by omega
      have e:G.getD ((q:Int)).toNat 0=G[q]:=by rw [Int.toNat_natCast,List.getD_eq_getElem?_getD,List.getElem?_eq_getElem hq];rfl
      rw [if_neg c1,decide_eq_false c1,akn hq,e]
      rfl
   rw [aiW st,ih (j+1) _ (by omega),←List.getElem_cons_drop hj',List.all_cons,Bool.and_assoc]
 have:=lp R.length 0 true (by omega)
 rw [List.drop_zero,Bool.true_and] at this
 exact this
theorem aAx {most B:Int} (hm0:0≤most) (hm:most≤1048576) (hB:B≤20000):∀(m:Nat) (G:List Int) (used L:Int),G.length+m=N.length→0≤L→L≤B→0≤used→used≤1048576+G.length→
 ∃b y,aj3 ⟨N,G,most,B - L,B⟩ used=some (b,y)∧((tsr N most m G used L).1=5→b=true∧y.nodes=B+1)∧((tsr N most m G used L).1=0→b=true∧y=⟨N,(tsr N most m G used L).2.1,most,B - (tsr N most m G used L).2.2,B⟩)∧
  ((tsr N most m G used L).1=3→b=false∧y=⟨N,G,most,B - (tsr N most m G used L).2.2,B⟩):=by
 intro m
 induction m with
 | zero=>
  intro G used L hG h0 h1 u0 u1
  rw [aCn]
  unfold ajg tsr
  simp only
  rw [alv (n:=B - L+1) (by omega) (by omega),if_pos (.inr (by omega))]
  by_cases c:L=0
  ·rw [if_pos c]
   exact ⟨_,_,rfl,(fun _=>⟨rfl,by show B - L+1=B+1;omega⟩),(fun h=>by cases h),(fun h=>by cases h)⟩
  ·rw [if_neg c]
   exact ⟨_,_,rfl,(fun h=>by cases h),(fun _=>⟨rfl,by rw [show B - L+1=B - (L - 1) by omega]⟩),(fun h=>by cases h)⟩
 | succ m ih=>
  intro G used L hG h0 h1 u0 u1
  rw [aCn]
  unfold ajg tsr
  simp only
  rw [alv (n:=B - L+1) (by omega) (by omega)]
  by_cases c:L=0
  ·rw [if_pos (.inl (by omega)),if_pos c]
   exact ⟨_,_,rfl,(fun _=>⟨rfl,by show B - L+1=B+1;omega⟩),(fun h=>by cases h),(fun h=>by cases h)⟩
  rw [if_neg (by omega),if_neg c]
  have hkl:G.length<N.length:=by omega
  generalize hx0:(⟨N,G,most,B - L,B⟩:aiL)=x0
  have hx:x0.aiV=G:=by rw [←hx0]
  have hk:∀i:Nat,(i< (min2 most (used+1)).toNat)↔((i:Int) <min2 most (used+1)):=by
   intro i
   rcases amY most (used+1) with h | h<;>rw [h.2]<;>omega
  generalize hK:(min2 most (used+1)).toNat=K at hk
  have lp:∀(k i:Nat) (L1:Int),i+k=K→0≤L1→L1≤B→
   ∃o,aiM (aiU SVi used x0) ((i:Int),N,G,most,B - L1,B)=some o∧∀r,r=tgo (tsr N most m) (N.getD G.length []) G used k i L1→
    ∃b y,(match o with
     | .inl (a,b,c,d,e)=>(some (false,(⟨a,b,c,d,e⟩:aiL)))
     | .inr r2=>some r2)=some (b,y)∧(r.1=5→b=true∧y.nodes=B+1)∧(r.1=0→b=true∧y=⟨N,r.2.1,most,B - r.2.2,B⟩)∧(r.1=3→b=false∧y=⟨N,G,most,B - r.2.2,B⟩):=by
   intro k
   induction k with
   | zero=>
    intro i L1 hi g0 g1
    have st:aiU SVi used x0 ((i:Int),N,G,most,B - L1,B)=some (.inr (.inl (N,G,most,B - L1,B))):=by
     unfold aiU
     simp only
     rw [alv (n:=used+1) (by omega) (by omega),axD,Option.bind_some,if_neg (fun h=>by have:=(hk i).2 h;omega)]
    refine ⟨_,aiN st,fun r hr=>?_⟩
    subst hr
    exact ⟨_,_,rfl,(fun h=>by cases h),(fun h=>by cases h),fun _=>⟨rfl,rfl⟩⟩
   | succ k ihk=>
    intro i L1 hi g0 g1
    have i1:=(hk i).1 (by omega)
    have i2:(i:Int)≤used:=by rcases amY most (used+1) with h | h<;>rw [h.2] at i1<;>omega
    unfold tgo
    by_cases c1:(N.getD G.length []).all (ftT G (i:Int))=true
    ·simp only [if_pos c1]
     obtain ⟨b,y,r1,r2,r3,r4⟩:=ih (G++[(i:Int)]) (max2 used ((i:Int)+1)) L1 (by rw [List.length_append,List.length_singleton];omega) g0 g1 (by rcases akf used ((i:Int)+1) with q | q<;>rw [q.2]<;>omega) (by rw [List.length_append,List.length_singleton];rcases akf used ((i:Int)+1) with q | q<;>rw [q.2]<;>omega)
     have hR:=atP (N:=N) (most:=most) m (G++[(i:Int)]) (max2 used ((i:Int)+1)) L1 g0
     generalize tsr N most m (G++[(i:Int)]) (max2 used ((i:Int)+1)) L1=r at r2 r3 r4 hR
     have r1:SVi (⟨N,G++[(i:Int)],most,B - L1,B⟩,max2 used ((i:Int)+1))=some (b,y):=r1
     have st:aiU SVi used x0 ((i:Int),N,G,most,B - L1,B)=if b=true then some (.inr (.inr (true,y))) else ((slc y.aiV 0 (G.length:Int)).bind fun aDW=>some (.inl (((i+1:Nat):Int),y.near,((y.aiV.take ((G.length:Int).toNat)).drop 0),y.most,y.nodes,y.budget))):=by
      unfold aiU aja
      simp only
      rw [alv (n:=used+1) (by omega) (by omega),axD,Option.bind_some,if_pos i1,aAw hl hN hx hkl,Option.bind_some,if_pos c1,arh (by rw [List.length_singleton];omega),Option.bind_some,alv (n:=(i:Int)+1) (by omega) (by omega),aDn,Option.bind_some,r1,Option.bind_some,hx,show ((i+1:Nat):Int)=(i:Int)+1 by omega]
     rcases hR.2.2 with h | ⟨h,h'⟩ | ⟨h,h'⟩
     ·obtain ⟨e1,e2⟩:=r3 h
      subst e1 e2
      rw [if_pos rfl] at st
      refine ⟨_,aiN st,fun q hq=>?_⟩
      rw [if_neg (by omega)] at hq
      subst hq
      exact ⟨_,_,rfl,(fun h5=>by omega),(fun _=>⟨rfl,rfl⟩),(fun h5=>by omega)⟩
     ·obtain ⟨e1,e2⟩:=r2 h
      subst e1
      rw [if_pos rfl] at st
      refine ⟨_,aiN st,fun q hq=>?_⟩
      rw [if_neg (by omega)] at hq
      subst hq
      exact ⟨_,_,rfl,(fun _=>⟨rfl,e2⟩),(fun h5=>by omega),(fun h5=>by omega)⟩
     ·obtain ⟨e1,e2⟩:=r4 h
      subst e1 e2
      rw [if_neg (by decide)] at st
      unfold slc at st
      rw [if_pos (by simp only [List.length_append,List.length_singleton];omega),Option.bind_some] at st
      have et:(((G++[(i:Int)]).take ((G.length:Int).toNat)).drop 0)=G:=by simp
      simp only [et] at st
      rw [aiW st]
      obtain ⟨o,o1,o2⟩:=ihk (i+1) r.2.2 (by omega) hR.1 (by have:=hR.2.1;omega)
      refine ⟨o,o1,fun q hq=>?_⟩
      rw [if_pos h] at hq
      exact o2 q hq
    ·simp only [if_neg c1]
     have st:aiU SVi used x0 ((i:Int),N,G,most,B - L1,B)=some (.inl (((i+1:Nat):Int),N,G,most,B - L1,B)):=by
      unfold aiU aja
      simp only
      rw [alv (n:=used+1) (by omega) (by omega),axD,Option.bind_some,if_pos i1,aAw hl hN hx hkl,Option.bind_some,if_neg c1,aiZ (by omega)]
     rw [aiW st]
     exact ihk (i+1) L1 (by omega) g0 g1
  obtain ⟨o,o1,o2⟩:=lp K 0 (L - 1) (by omega) (by omega) (by omega)
  have o1:aiM (aiU SVi used x0) (0,N,G,most,B - (L - 1),B)=some o:=o1
  rw [show B - L+1=B - (L - 1) by omega,o1,Option.bind_some]
  rcases o with ⟨a1,a2,a3,a4,a5⟩ | o
  ·exact o2 _ rfl
  ·exact o2 _ rfl
end
theorem aCo (l:List Int) (h:l.length≤1048576):an3 l=some l:=by
 unfold an3
 rw [arh (by simp only [List.length_nil];omega)]
 rfl
theorem aBZ (t:aiE) (B:Int):∃r q c,ak9 t B=some (r,q,c)∧aks t B=some (r,q,c)∧r.length≤1000:=by
 obtain ⟨v,h1,h2,h3⟩:=aBS t
 unfold ak9 aks
 rw [h1,h2,Option.bind_some,Option.bind_some,ayg,auM,Option.bind_some,Option.bind_some]
 cases v with
 | false=>exact ⟨[],0,1,rfl,rfl,by simp⟩
 | true=>
  rw [if_pos rfl,if_pos rfl]
  by_cases cB:1≤B∧B≤20000
  ·rw [decide_eq_true cB,if_pos rfl,if_pos rfl]
   obtain ⟨n,hV⟩:=h3 rfl
   have hn1:=hV.n1
   have hn2:=hV.n2
   rw [hV.ms,Option.bind_some,aBU hV,Option.bind_some,aBV hV,Option.bind_some]
   have hN:∀k,∀x∈(NT2 t n).getD k [],0≤x:=fun k=>(ayk hV k).1
   have hl:∀k,((NT2 t n).getD k []).length≤1048576:=fun k=>(ayk hV k).2
   have hlen:=asJ t n
   generalize NT2 t n=N at hN hl hlen
   have lp:∀(r m:Nat) (L:Int) (col:List Int),m+r=n→1≤m→0≤L→L≤B→
    ∃o q c,aiM (aiY B (n:Int)) (N,col,(m:Int),B - L,B)=some (.inr (o,q,c))∧aiM ai1 ((m:Int),N,L)=some (o,q,c)∧o.length≤1000:=by
    intro r
    induction r with
    | zero=>
     intro m L col hm m1 g0 g1
     have e1:=aAv hN hl (by omega) (m:Int) (by omega) (by omega) n [] 0 L (by simp [hlen]) g0 (by omega) (by omega) (by simp)
     obtain ⟨b,y,e2,v5,v0,v3⟩:=aAx hN hl (by omega) (most:=(m:Int)) (B:=B) (by omega) (by omega) cB.2 n [] 0 L (by simp [hlen]) g0 g1 (by omega) (by simp)
     have hR:=atP (N:=N) (most:=(m:Int)) n [] 0 L g0
     have hL:=ayl (N:=N) (most:=(m:Int)) n [] 0 L
     have h3:=aBX (most:=(m:Int)) hN n [] 0 L (by simp) (by omega) (by simp) (by simp;omega)
     generalize tsr N (m:Int) n [] 0 L=r at e1 v5 v0 v3 hR hL h3
     rcases hR.2.2 with h | ⟨h,h',_⟩ | ⟨h,h'⟩
     ·obtain ⟨rfl,rfl⟩:=v0 h
      have hll:=hL h
      rw [List.length_nil] at hll
      have hR0:=hR.1
      refine ⟨r.2.1,(m:Int),0,aiN ?_,aiN ?_,by omega⟩
      ·unfold aiY
       simp only
       rw [if_pos (by omega),e2,Option.bind_some]
       simp only
       rw [if_neg (by omega),if_pos trivial,aCo _ (by omega)]
       rfl
      ·unfold ai1
       simp only
       rw [e1,Option.bind_some]
       simp only
       rw [if_pos h]
     ·obtain ⟨rfl,hy⟩:=v5 h
      refine ⟨[],0,5,aiN ?_,aiN ?_,by simp⟩
      ·unfold aiY
       simp only
       rw [if_pos (by omega),e2,Option.bind_some]
       simp only
       rw [if_pos (by omega)]
      ·unfold ai1
       simp only
       rw [e1,Option.bind_some]
       simp only [h]
       rfl
     ·exact absurd h h3
    | succ r ih=>
     intro m L col hm m1 g0 g1
     have e1:=aAv hN hl (by omega) (m:Int) (by omega) (by omega) n [] 0 L (by simp [hlen]) g0 (by omega) (by omega) (by simp)
     obtain ⟨b,y,e2,v5,v0,v3⟩:=aAx hN hl (by omega) (most:=(m:Int)) (B:=B) (by omega) (by omega) cB.2 n [] 0 L (by simp [hlen]) g0 g1 (by omega) (by simp)
     have hR:=atP (N:=N) (most:=(m:Int)) n [] 0 L g0
     have hL:=ayl (N:=N) (most:=(m:Int)) n [] 0 L
     generalize tsr N (m:Int) n [] 0 L=r2 at e1 v5 v0 v3 hR hL
     have hR0:=hR.1
     have hR1:=hR.2.1
     rcases hR.2.2 with h | ⟨h,h',_⟩ | ⟨h,h'⟩
     ·obtain ⟨rfl,rfl⟩:=v0 h
      have hll:=hL h
      rw [List.length_nil] at hll
      refine ⟨r2.2.1,(m:Int),0,aiN ?_,aiN ?_,by omega⟩
      ·unfold aiY
       simp only
       rw [if_pos (by omega),e2,Option.bind_some]
       simp only
       rw [if_neg (by omega),if_pos trivial,aCo _ (by omega)]
       rfl
      ·unfold ai1
       simp only
       rw [e1,Option.bind_some]
       simp only
       rw [if_pos h]
     ·obtain ⟨rfl,hy⟩:=v5 h
      refine ⟨[],0,5,aiN ?_,aiN ?_,by simp⟩
      ·unfold aiY
       simp only
       rw [if_pos (by omega),e2,Option.bind_some]
       simp only
       rw [if_pos (by omega)]
      ·unfold ai1
       simp only
       rw [e1,Option.bind_some]
       simp only [h]
       rfl
     ·obtain ⟨rfl,rfl⟩:=v3 h
      have sS:aiY B (n:Int) (N,col,(m:Int),B - L,B)=some (.inl (N,[],((m+1:Nat):Int),B - r2.2.2,B)):=by
       unfold aiY
       simp only
       rw [if_pos (by omega),e2,Option.bind_some]
       simp only
       rw [if_neg (by omega),if_neg (by decide),aiZ (by omega)]
      have sI:ai1 ((m:Int),N,L)=some (.inl (((m+1:Nat):Int),N,r2.2.2)):=by
       unfold ai1
       simp only
       rw [e1,Option.bind_some,aiZ (by omega)]
       simp only [h]
       rfl
      rw [aiW sS,aiW sI]
      exact ih (m+1) r2.2.2 [] (by omega) (by omega) hR0 (by omega)
   obtain ⟨o,q,c,p1,p2,p3⟩:=lp (n - 1) 1 B [] (by omega) (by omega) (by omega) (Int.le_refl _)
   rw [Int.sub_self] at p1
   have p1:aiM (aiY B (n:Int)) (N,[],1,0,B)=_:=p1
   have p2:aiM ai1 (1,N,B)=_:=p2
   rw [p1,p2]
   exact ⟨o,q,c,rfl,rfl,p3⟩
  ·rw [decide_eq_false cB]
   exact ⟨[],0,2,rfl,rfl,by simp⟩
theorem aDp (l:List Int) (h:l.length≤1048576):alb l 1=some (1+(l.length:Int)):=by
 unfold alb
 have q:aiM (ajU l) (1+((0:Nat):Int),((0:Nat):Int))=some (1+(l.length:Int)):=by
  refine amr (fun i:Nat=>(1+(i:Int),(i:Int))) l.length (fun i hi=>?_) ?_
  ·unfold ajU
   simp only
   rw [if_pos (by omega),akn hi,Option.bind_some,alv (by omega) (by omega),aiZ (by omega),show 1+(i:Int)+1=1+((i+1:Nat):Int) by omega]
  ·unfold ajU
   simp only
   rw [if_neg (by omega)]
 have q:aiM (ajU l) (1,0)=_:=q
 rw [q]
 rfl
theorem awQ (a:aiE) (wa:atK a) {left:Int} (h0:0≤left) (h1:left≤1048576):∃v,amF a left=some v∧v≤left∧(v<0∨ari a):=by
 obtain ⟨v,v1,v2,v3⟩:=awI a.Cells wa.2.2 (left:=left) h0 h1
 unfold amF
 rw [v1,Option.bind_some]
 by_cases c:v<0
 ·rw [if_pos c]
  exact ⟨-1,rfl,by omega,.inl (by omega)⟩
 ·rw [if_neg c]
  exact ⟨v,rfl,v2,.inr ⟨trivial,trivial,v3.resolve_left c⟩⟩
theorem awR (a:aiE) (ha:ari a):akU a=some a:=by
 unfold akU
 rw [awJ a.Cells ha.2.2]
 rfl
theorem awS (a:aiE) (ha:ari a):amH a a=some true:=by
 unfold amH
 rw [if_neg (fun h=>h rfl),if_neg (fun h=>h rfl),awK a.Cells ha.2.2]
 rfl
theorem arN (a:aiE) (B:Int) (wa:atK a):akk a B=some true:=by
 unfold akk
 obtain ⟨v,v1,v2,v3⟩:=awQ a wa (left:=1048576) (by omega) (by omega)
 rw [v1,Option.bind_some]
 by_cases c1:v<0
 ·rw [if_pos c1]
 rw [if_neg c1]
 have ha:=v3.resolve_left c1
 obtain ⟨r,q,c,h1,h2,h3⟩:=aBZ a B
 have hmk:alT a 1=some (1+(a.Cells.length:Int)):=by
  unfold alT
  rw [aDp _ ha.2.2.1]
  rfl
 rw [awR a ha]
 simp only [Option.bind_some,h1,h2,aEt r (by omega),awS a ha,hmk,aBL r (by omega),aBM r.length (by omega),not_true,ne_eq,or_self,if_false,if_true]
 rw [if_neg (show ¬1+(a.Cells.length:Int) <0 by omega)]
 simp
 rw [if_neg (by omega),if_neg (by omega)]
end Go.Pw
