/- The frame of a call as it begins. Conditions: none. -/
import Derived.Test.YtambonpepalofaaSimR
namespace Go.Sim
open Classical
set_option linter.unusedSimpArgs false
set_option linter.unusedVariables false
noncomputable section
theorem dupl_uniq:∀{lks:List LK},dupl (lks.filterMap LK.id?)=false→∀{i j o:Nat} {x y:LK},lks[i]?=some x→lks[j]?=some y→x.id? =some o→y.id? =some o→i=j:=by
 intro lks
 induction lks with
 | nil=>intro _ i j o x y hx;simp at hx
 | cons z lks ih=>
  intro hd i j o x y hx hy hxo hyo
  have mem:∀{i:Nat} {x:LK},lks[i]?=some x→x.id? =some o→o∈lks.filterMap LK.id? :=fun hx hxo=>List.mem_filterMap.2 ⟨_,List.mem_of_getElem? hx,hxo⟩
  have hd':(∀o,z.id? =some o→o∉lks.filterMap LK.id?)∧dupl (lks.filterMap LK.id?)=false:=by
   cases hz:z.id? with
   | none=>rw [List.filterMap_cons_none hz] at hd;exact ⟨(fun o ho=>by cases ho),hd⟩
   | some o'=>
    rw [List.filterMap_cons_some hz] at hd
    simp only [dupl,Bool.or_eq_false_iff] at hd
    refine ⟨fun o ho hm=>?_,hd.2⟩
    cases ho
    have:=List.any_eq_false.1 hd.1 o' hm
    simp at this
  cases i with
  | zero=>
   cases j with
   | zero=>rfl
   | succ j=>
    simp at hx hy
    subst hx
    exact absurd (mem hy hyo) (hd'.1 o hxo)
  | succ i=>
   cases j with
   | zero=>
    simp at hx hy
    subst hy
    exact absurd (mem hx hxo) (hd'.1 o hyo)
   | succ j=>
    simp at hx hy
    rw [ih hd'.2 hx hy hxo hyo]
def lkO (lks:List LK) (o:Nat):Option Nat:=if h:∃j,lks[j]?=some (.obj o) then some (Classical.choose h) else none
def lkR (lks:List LK) (o c:Nat):Option Nat:=if h:∃j,lks[j]?=some (.row o c) then some (Classical.choose h) else none
theorem lkO_some {lks:List LK} (hd:dupl (lks.filterMap LK.id?)=false) {j o:Nat} (h:lks[j]?=some (.obj o)):lkO lks o=some j:=by
 have hx:∃i,lks[i]?=some (LK.obj o):=⟨j,h⟩
 unfold lkO
 rw [dif_pos hx]
 rw [dupl_uniq hd (Classical.choose_spec hx) h rfl rfl]
theorem lkO_inv {lks:List LK} {j o:Nat} (h:lkO lks o=some j):lks[j]?=some (.obj o):=by
 unfold lkO at h
 split at h
 ·rename_i hx
  cases h
  exact Classical.choose_spec hx
 ·cases h
theorem lkR_inv {lks:List LK} {j o c:Nat} (h:lkR lks o c=some j):lks[j]?=some (.row o c):=by
 unfold lkR at h
 split at h
 ·rename_i hx
  cases h
  exact Classical.choose_spec hx
 ·cases h
theorem lkR_some {lks:List LK} (hd:dupl (lks.filterMap LK.id?)=false) {j o c:Nat} (h:lks[j]?=some (.row o c)):lkR lks o c=some j∧lkO lks o=none:=by
 have hx:∃i,lks[i]?=some (LK.row o c):=⟨j,h⟩
 refine ⟨?_,?_⟩
 ·unfold lkR
  rw [dif_pos hx]
  rw [dupl_uniq hd (Classical.choose_spec hx) h rfl rfl]
 ·unfold lkO
  rw [dif_neg]
  rintro ⟨i,hi⟩
  have:=dupl_uniq hd hi h rfl rfl
  subst this
  rw [h] at hi;cases hi
def ownIn (lks:List LK) (own:Nat→Option Owner) (b:Nat):Option Owner:=
 match own b with
 | some (.root o)=>(lkO lks o).map .root
 | some (.cell o c)=>match lkO lks o with
  | some j=>some (.cell j c)
  | none=>(lkR lks o c).map fun j=> .cell j 0
 | some (.det j)=>if lks[j]?=some .det then some (.cell j 0) else none
 | none=>none
def FIn (W:Wit) (T iot:Nat) (bor:List Nat):Nat→Nat→Prop
 | 0=>W.F 0
 | 1=>W.F (tg iot)
 | _=>fun b=>W.F (tg T) b∨∃o∈bor,Owned W o b
def witIn (W:Wit) (lks:List LK) (vs:List Value) (T iot:Nat) (bor:List Nat) (db:Nat→Option Nat):Wit where
 F:=FIn W T iot bor
 vals:=fun j=>match lks[j]? with
  | some (.obj o)=>W.vals o
  | some (.row o c)=>((W.vals o)[c]?).toList
  | some .det=>(vs[j]?).toList
  | _=>[]
 blk:=fun j=>match lks[j]? with
  | some (.obj o)=>W.blk o
  | _=>0
 fp:=fun j c=>match lks[j]? with
  | some (.obj o)=>W.fp o c
  | some (.row o c')=>if c=0 then W.fp o c' else none
  | some .det=>if c=0 then db j else none
  | _=>none
 us:=fun _ _=>[]
 own:=ownIn lks W.own
def baseIn (w:World) (W':Wit) (n:Nat):Base where
 w0:=w
 F:=W'.F
 lent:=fun b=>W'.own b≠none
 nt:=n
 pblk:=W'.blk
 pvals:=W'.vals
section
variable {P:Program} {cfg:Cfg} {callF:FuncId→List Arg→Option (Res×List Out)} {B:Base} {st st':St} {a:Act} {w:World} {W:Wit} {o:Oper} {nt f:Nat} {ops:Array Oper}
theorem ownIn_some {lks:List LK} {own:Nat→Option Owner} {b:Nat} {x:Owner} (h:ownIn lks own b=some x):∃y,own b=some y:=by
 cases hb:own b with
 | none=>simp [ownIn,hb] at h
 | some y=>exact ⟨y,rfl⟩
theorem look_zip {α:Type} (d:α) (g:Nat→Arg→α) (args:List Arg):∀(k t:Nat),look d ((args.zipIdx k).map fun p=>(p.2,g p.2 p.1)) t=if k≤t then (match args[t - k]? with | some x=>g t x | none=>d) else d:=by
 induction args with
 | nil=>intro k t;simp [look]
 | cons x args ih=>
  intro k t
  simp only [List.zipIdx_cons,List.map_cons,look]
  by_cases e:t=k
  ·subst e;simp
  ·rw [beq_ne e,ih (k+1) t]
   by_cases h1:k+1≤t
   ·rw [if_pos h1,if_pos (by omega)]
    have:t - k=(t - (k+1))+1:=by omega
    rw [this,List.getElem?_cons_succ]
    rfl
   ·rw [if_neg h1,if_neg (by omega)]
    rfl
theorem entry_sl (args:List Arg) (t:Nat):(entry args).sl t=match args[t]? with | some x=>(argIn t x).1 | none=> .junk:=by
 have:=look_zip SV.junk (fun j x=>(argIn j x).1) args 0 t
 simp only [Nat.zero_le,if_true,Nat.sub_zero] at this
 rw [←this]
 simp [entry,List.map_map,Function.comp_def]
theorem entry_L (args:List Arg) (t:Nat):(entry args).L t=match args[t]? with | some x=>(argIn t x).2 | none=>none:=by
 have:=look_zip (none:Option Obj) (fun j x=>(argIn j x).2) args 0 t
 simp only [Nat.zero_le,if_true,Nat.sub_zero] at this
 rw [←this]
 simp [entry,List.map_map,Function.comp_def]
theorem overlap_no {xs ys:List Nat} (h:overlap xs ys=false) {o:Nat} (hx:o∈xs) (hy:o∈ys):False:=by
 unfold overlap at h
 have:=List.any_eq_false.1 h o hx
 simp at this
 exact this hy
theorem entry_ok (h:Rel B st a w W) {T iot:Nat} {bor:List Nat} {args:List Arg} {vs:List Value} {lks:List LK} (hA:ArgsAt w W st T iot bor args vs lks 0) (hio:iot≤T) (hd:dupl (lks.filterMap LK.id?)=false)
 (hov:overlap bor (lks.filterMap LK.id?)=false):
 ∃db,∀n,vs.length≤n→Rel (baseIn w (witIn W lks vs T iot bor db) n) (entry args) {tmps:=vs.toArray++Array.replicate (n - vs.length) undef,defers:=[]} w (witIn W lks vs T iot bor db):=by
 have hch:∀j,∃ob:Option Nat,∀v,lks[j]?=some .det→vs[j]?=some v→∃sz es,args[j]?=some (.mv sz es)∧OwnRow w (W.F 0) sz es v ob∧∀b,ob=some b→W.own b=some (.det j):=by
  intro j
  by_cases hx:lks[j]?=some .det∧∃v,vs[j]?=some v
  ·obtain ⟨h1,v,h2⟩:=hx
   have hlt:j<args.length:=by
    rw [←hA.vlen]
    rcases Nat.lt_or_ge j vs.length with h' | h'
    ·exact h'
    ·rw [List.getElem?_eq_none h'] at h2;cases h2
   have hx:args[j]?=some args[j]:=List.getElem?_eq_getElem hlt
   obtain ⟨sz,es,k1,sz',es',ob,k2,k3,k4⟩:=hA.at_ j _ v .det hx h2 h1
   rw [Nat.zero_add] at k4
   injection k2 with k5 k6
   subst k5 k6
   refine ⟨ob,fun v' _ hv'=>?_⟩
   rw [h2] at hv';cases hv'
   exact ⟨sz,es,by rw [hx,k1],k3,k4⟩
  ·exact ⟨none,fun v h1 h2=>absurd ⟨h1,v,h2⟩ hx⟩
 obtain ⟨db,hdb⟩:∃db:Nat→Option Nat,∀j v,lks[j]?=some .det→vs[j]?=some v→∃sz es,args[j]?=some (.mv sz es)∧OwnRow w (W.F 0) sz es v (db j)∧∀b,db j=some b→W.own b=some (.det j):=
  ⟨fun j=>Classical.choose (hch j),fun j=>Classical.choose_spec (hch j)⟩
 refine ⟨db,fun n hn=>?_⟩
 generalize hW:witIn W lks vs T iot bor db=W'
 have hF:W'.F=FIn W T iot bor:=by subst hW;rfl
 have hOwn:W'.own=ownIn lks W.own:=by subst hW;rfl
 have hlkNone:∀{o:Nat},o∈bor→lkO lks o=none∧∀c,lkR lks o c=none:=by
  intro o ho
  constructor
  ·cases hk:lkO lks o with
   | none=>rfl
   | some j=>exact (overlap_no hov ho (List.mem_filterMap.2 ⟨_,List.mem_of_getElem? (lkO_inv hk),rfl⟩)).elim
  ·intro c
   cases hk:lkR lks o c with
   | none=>rfl
   | some j=>exact (overlap_no hov ho (List.mem_filterMap.2 ⟨_,List.mem_of_getElem? (lkR_inv hk),rfl⟩)).elim
 have hOwned:∀{o b:Nat},o∈bor→Owned W o b→W'.own b=none:=by
  intro o b ho hb
  obtain ⟨n1,n2⟩:=hlkNone ho
  rw [hOwn]
  rcases hb with hb | ⟨c,hb⟩
  ·simp [ownIn,hb,n1]
  ·simp [ownIn,hb,n1,n2 c]
 have hroot:∀{j o b:Nat},lks[j]?=some (.obj o)→W.own b=some (.root o)→W'.own b=some (.root j):=by
  intro j o b hj hb
  rw [hOwn]
  simp [ownIn,hb,lkO_some hd hj]
 have hcell:∀{j o c b:Nat},lks[j]?=some (.obj o)→W.own b=some (.cell o c)→W'.own b=some (.cell j c):=by
  intro j o c b hj hb
  rw [hOwn]
  simp [ownIn,hb,lkO_some hd hj]
 have hrow:∀{j o c b:Nat},lks[j]?=some (.row o c)→W.own b=some (.cell o c)→W'.own b=some (.cell j 0):=by
  intro j o c b hj hb
  obtain ⟨n1,n2⟩:=lkR_some hd hj
  rw [hOwn]
  simp [ownIn,hb,n1,n2]
 have hdet:∀{j b:Nat},lks[j]?=some .det→W.own b=some (.det j)→W'.own b=some (.cell j 0):=by
  intro j b hj hb
  rw [hOwn]
  simp [ownIn,hb,hj]
 have hF0:∀b,W.F 0 b→W.F (tg iot) b:=fun b hb=>h.fle (t:=0) (t':=iot) (Nat.zero_le _) hb
 have hF1:∀b,W.F (tg iot) b→W.F (tg T) b:=fun b hb=>h.fle hio hb
 have hat:∀{j:Nat} {x:Arg},args[j]?=some x→∃v lk,vs[j]?=some v∧lks[j]?=some lk∧ArgAt w W st T iot bor j x v lk:=by
  intro j x hx
  have hlt:j<args.length:=by
   rcases Nat.lt_or_ge j args.length with h' | h'
   ·exact h'
   ·rw [List.getElem?_eq_none h'] at hx;cases hx
  have h1:vs[j]?=some (vs[j]'(by rw [hA.vlen];exact hlt)):=List.getElem?_eq_getElem _
  have h2:lks[j]?=some (lks[j]'(by rw [hA.len];exact hlt)):=List.getElem?_eq_getElem _
  have:=hA.at_ j x _ _ hx h1 h2
  rw [Nat.zero_add] at this
  exact ⟨_,_,h1,h2,this⟩
 have hvals:∀{j o:Nat},lks[j]?=some (.obj o)→W'.vals j=W.vals o∧W'.blk j=W.blk o∧∀c,W'.fp j c=W.fp o c:=by
  intro j o hj
  subst hW
  simp [witIn,hj]
 have hvalsR:∀{j o c:Nat},lks[j]?=some (.row o c)→W'.vals j=((W.vals o)[c]?).toList∧W'.fp j 0=W.fp o c:=by
  intro j o c hj
  subst hW
  simp [witIn,hj]
 have hvalsD:∀{j:Nat} {v:Value},lks[j]?=some .det→vs[j]?=some v→W'.vals j=[v]∧W'.fp j 0=db j:=by
  intro j v hj hv
  subst hW
  simp [witIn,hj,hv]
 refine
  {f01:=?_,f12:=?_,fb:=fun t b hb=>hb,fnew:=fun t b hb=> .inl hb,fown:=?_,flt:=?_,olt:=?_,objs:=?_,slots:=?_,frame:=fun b _ _=>rfl,size:=Nat.le_refl _,io:=⟨rfl,rfl⟩
   par:=fun o ob _ _=>⟨rfl,fun _=>rfl⟩,defers:=rfl,tmps:=?_}
 ·intro b hb;rw [hF] at hb ⊢;exact hF0 b hb
 ·intro b hb;rw [hF] at hb ⊢;exact .inl (hF1 b hb)
 ·intro b hb
  rw [hF] at hb
  rcases hb with hb | ⟨o,ho,hb⟩
  ·rw [hOwn];simp [ownIn,h.fown b (h.f2 hb)]
  ·exact hOwned ho hb
 ·intro b hb
  rw [hF] at hb
  rcases hb with hb | ⟨o,ho,hb⟩
  ·exact h.flt b (h.f2 hb)
  ·rcases hb with hb | ⟨c,hb⟩<;>exact (h.olt b _ hb).1
 ·intro b x hb
  obtain ⟨y,hy⟩:=ownIn_some (by rw [hOwn] at hb;exact hb)
  exact ⟨(h.olt b y hy).1,.inr (by show W'.own b≠none;rw [hb];intro e;cases e)⟩
 ·intro j ob hL
  rw [entry_L] at hL
  cases hx:args[j]? with
  | none=>rw [hx] at hL;cases hL
  | some x=>
   rw [hx] at hL
   simp only at hL
   obtain ⟨v,lk,hv,hlk,hat1⟩:=hat hx
   cases lk with
   | no=>
    obtain ⟨ag,as,⟨rfl,_⟩ | ⟨rfl,_⟩⟩:=hat1<;>cases hL
   | obj o=>
    obtain ⟨ob0,cs,rfl,hL0,hm,hfz,hpv,hfl,hfits⟩:=hat1
    simp only [argIn,Option.some.injEq] at hL
    subst hL
    obtain ⟨e1,e2,e3⟩:=hvals hlk
    have ho:=h.objs o ob0 hL0
    refine ⟨by rw [e1,ho.len,hfl];simp,fun c x v hx hv=>?_,fun _=>?_,(fun hf=>by cases hf),fun x hx=>?_⟩
    ·rw [e1] at hv
     simp only [List.getElem?_map] at hx
     obtain ⟨⟨m,y⟩,hc,rfl⟩:=Option.map_eq_some_iff.1 hx
     obtain ⟨s,t,hx0,hcase⟩:=hfits c m y hc
     have hok:=ho.cells c _ v hx0 hv
     rcases hcase with ⟨rfl,ht⟩ | ⟨rfl,rfl⟩ | ⟨rfl,ht⟩
     ·show CRi w (W'.F (tg (tagOf (tagOf 1 y) y))) [y] [v]
      cases y with
      | sc u=>cases hok with | sc hp _=>exact .sc hp .nil
      | _=>exact CRi.mono (fun b hb=>⟨by rw [hF];exact h.fle ht hb,rfl⟩) hok
     ·cases y with
      | row sz es=>
       obtain ⟨k1,k2⟩:=hok
       refine ⟨?_,fun b hb=>?_⟩
       ·rw [e3 c];exact k1.mono (fun b hb=>⟨by rw [hF];exact hb,rfl⟩) fun b hb=>rfl
       ·rw [e3 c] at hb;exact hcell hlk (k2 b hb)
      | _=>exact hok.elim
     ·show CRi w (W'.F (tg (tagOf 0 y))) [y] [v]
      have hok:CRi w (W.F (tg (tagOf t y))) [y] [v]:=hok
      rw [ht] at hok
      have e0:tagOf 0 y=0:=by cases y<;>rfl
      rw [e0]
      exact hok.mono fun b hb=>⟨by rw [hF];exact hb,rfl⟩
    ·obtain ⟨arr,T',fr,k1,k2,k3,k4,k5⟩:=ho.mem hm
     exact ⟨arr,T',fr,by rw [e2];exact k1,by rw [e1];exact k2,k3,fun _=>by rw [e2];exact hroot hlk (k4 hfz),(fun hf=>by cases hf)⟩
    ·obtain ⟨y,_,rfl⟩:=List.mem_map.1 hx
     exact Nat.le_refl _
   | row o c=>
    obtain ⟨ob0,s,sz,es,rfl,hL0,hc0,hpv⟩:=hat1
    simp only [argIn,Option.some.injEq] at hL
    subst hL
    obtain ⟨e1,e3⟩:=hvalsR hlk
    have ho:=h.objs o ob0 hL0
    refine ⟨by rw [e1,hpv];rfl,fun c' x v' hx hv'=>?_,(fun hf=>by cases hf),(fun hf=>by cases hf),fun x hx=>?_⟩
    ·cases c' with
     | succ c'=>simp at hx
     | zero=>
      simp at hx
      subst hx
      rw [e1,hpv] at hv'
      simp at hv'
      subst hv'
      obtain ⟨k1,k2⟩:=ho.cells c _ v hc0 hpv
      refine ⟨?_,fun b hb=>?_⟩
      ·rw [e3];exact k1.mono (fun b hb=>⟨by rw [hF];exact hb,rfl⟩) fun b hb=>rfl
      ·rw [e3] at hb;exact hrow hlk (k2 b hb)
    ·simp at hx;subst hx;exact Nat.le_refl _
   | det=>
    obtain ⟨sz,es,rfl,_⟩:=hat1
    simp only [argIn,Option.some.injEq] at hL
    subst hL
    obtain ⟨e1,e3⟩:=hvalsD hlk hv
    obtain ⟨sz',es',k0,k1,k2⟩:=hdb j v hlk hv
    rw [hx] at k0
    cases k0
    refine ⟨by rw [e1];rfl,fun c' x v' hx' hv'=>?_,(fun hf=>by cases hf),(fun hf=>by cases hf),fun x hx=>?_⟩
    ·cases c' with
     | succ c'=>simp at hx'
     | zero=>
      simp at hx'
      subst hx'
      rw [e1] at hv'
      simp at hv'
      subst hv'
      refine ⟨?_,fun b hb=>?_⟩
      ·rw [e3];exact k1.mono (fun b hb=>⟨by rw [hF];exact hb,rfl⟩) fun b hb=>rfl
      ·rw [e3] at hb;exact hdet hlk (k2 b hb)
    ·simp at hx;subst hx;exact Nat.le_refl _
 ·intro t
  rw [entry_sl]
  cases hx:args[t]? with
  | none=>exact .inr ⟨rfl,_,rfl,trivial⟩
  | some x=>
   obtain ⟨v,lk,hv,hlk,hat1⟩:=hat hx
   have htv:(vs.toArray++Array.replicate (n - vs.length) undef).getD t undef=v:=by
    have hlt:t<vs.length:=by
     rcases Nat.lt_or_ge t vs.length with h' | h'
     ·exact h'
     ·rw [List.getElem?_eq_none h'] at hv;cases hv
    rw [Array.getD_eq_getD_getElem?,Array.getElem?_append_left (by simpa using hlt)]
    simp [hv]
   show SR w W' (entry args).L (argIn t x).1 ((vs.toArray++Array.replicate (n - vs.length) undef).getD t undef)
   rw [htv]
   have himm:∀{tt:Nat} {ag:Bool} {as:List AV},ACells w (W'.F (tg tt)) ag as v→SR w W' (entry args).L (.v ag (as.map (.im tt))) v:=by
    intro tt ag as hc
    have h01:∀b,W'.F 0 b→W'.F 1 b:=fun b hb=>by rw [hF] at hb ⊢;exact hF0 b hb
    have h12:∀b,W'.F 1 b→W'.F 2 b:=fun b hb=>by rw [hF] at hb ⊢;exact .inl (hF1 b hb)
    rcases hc with ⟨p1,us,p2,p3⟩ | ⟨p1,y,p2,p3⟩
    ·exact .inl ⟨p1,us,p2,RRs_im h01 h12 p3⟩
    ·subst p2
     refine .inr ⟨p1,_,rfl,?_⟩
     have:=RRs_im (L:=(entry args).L) h01 h12 p3
     cases this with
     | cons h1 _=>exact h1
   cases lk with
   | no=>
    obtain ⟨ag,as,⟨rfl,hc⟩ | ⟨rfl,hc⟩⟩:=hat1
    ·exact himm (tt:=0) (hc.mono fun b hb=>⟨by rw [hF];exact hb,rfl⟩)
    ·exact himm (tt:=2) (hc.mono fun b hb=>⟨by rw [hF];exact hb,rfl⟩)
   | obj o=>
    obtain ⟨ob0,cs,rfl,hL0,hm,hfz,hpv,hfl,hfits⟩:=hat1
    refine .inr ⟨rfl,_,rfl,?_⟩
    refine ⟨_,by rw [entry_L,hx];rfl,Nat.le_refl _,fun _=>⟨rfl,?_⟩⟩
    rw [hpv,(hvals hlk).2.1]
   | row o c=>
    obtain ⟨ob0,s,sz,es,rfl,hL0,hc0,hpv⟩:=hat1
    refine .inr ⟨rfl,_,rfl,?_⟩
    refine ⟨_,by rw [entry_L,hx];rfl,Nat.le_refl _,fun y hy _=>?_⟩
    rw [(hvalsR hlk).1,hpv];rfl
   | det=>
    obtain ⟨sz,es,rfl,_⟩:=hat1
    refine .inr ⟨rfl,_,rfl,?_⟩
    refine ⟨_,by rw [entry_L,hx];rfl,Nat.le_refl _,fun y hy _=>?_⟩
    rw [(hvalsD hlk hv).1];rfl
 ·show (vs.toArray++Array.replicate (n - vs.length) undef).size=n
  simp;omega
end
end
end Go.Sim
