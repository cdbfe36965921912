/- The machine without fuel: what it answers with any fuel; how a piece of code runs on it. Conditions: none. -/
import Derived.Test.YtngbehdgjocndaaGreatSimY
namespace Go.Sim
open Classical
set_option linter.unusedSimpArgs false
set_option linter.unusedVariables false
noncomputable section
abbrev yc:=FuncId→List Arg→Option (Res×List Out)
def Sup {α:Type} (F:yc→Nat→Option α) (c:yc) (n:Nat) (r:α):Prop:=
 ∃l:List (FuncId×List Arg),∀c' n',n≤n'→(∀x∈l,∀r,c x.1 x.2=some r→c' x.1 x.2=some r)→F c' n'=some r
section
variable {P:Program} {cfg:Cfg} {nt f:Nat} {ops:Array Oper} {c:yc} {n:Nat}
theorem Sup.const {α:Type} {r:α} {F:yc→Nat→Option α} (h:∀c' n',n≤n'→F c' n'=some r):Sup F c n r:=⟨[],fun c' n' hn _=>h c' n' hn⟩
theorem Sup.bind {α β:Type} {F:yc→Nat→Option α} {G:α→yc→Nat→Option β} {x:α} {y:β} (h1:Sup F c n x) (h2:Sup (G x) c n y):Sup (fun c n=>(F c n).bind fun x=>G x c n) c n y:=by
 obtain ⟨l1,h1⟩:=h1
 obtain ⟨l2,h2⟩:=h2
 refine ⟨l1++l2,fun c' n' hn hc=>?_⟩
 simp only [h1 c' n' hn (fun x hx=>hc x (by simp [hx])),Option.bind_some]
 exact h2 c' n' hn (fun x hx=>hc x (by simp [hx]))
theorem Sup.map {α β:Type} {F:yc→Nat→Option α} {g:α→β} {x:α} (h1:Sup F c n x):Sup (fun c n=>(F c n).map g) c n (g x):=by
 obtain ⟨l1,h1⟩:=h1
 refine ⟨l1,fun c' n' hn hc=>?_⟩
 simp only [h1 c' n' hn hc,Option.map_some]
theorem abW {st:St} {dst:Option Tmp} {g:FuncId} {t:TypeId} {o s cc i j k:Nat} (hp:cfg.par g 0= .row):st.wB P cfg c dst g [(t,.v false [.inr o s cc i j k])]=none:=by
 unfold St.wB
 simp [St.wS,St.SE,hp,St.vX,St.see]
theorem Um {st st':St} {dst:Option Tmp} {g:FuncId} {xs:List (TypeId×SV)} (e:st.wB P cfg c dst g xs=some st'):Sup (fun c _=>st.wB P cfg c dst g xs) c n st':=by
 unfold St.wB at e ⊢
 obtain ⟨pre,e1,e⟩:=Option.bind_eq_some_iff.1 e
 obtain ⟨p,e2,e⟩:=Option.bind_eq_some_iff.1 e
 split at e
 ·cases e
 ·rename_i hov
  obtain ⟨r,e3,e⟩:=Option.bind_eq_some_iff.1 e
  refine ⟨[(g,p.args)],fun c' n' _ hc=>?_⟩
  have:=hc _ (List.mem_singleton.2 rfl) r e3
  simp only at this
  simp only [e1,e2,Option.bind_some,if_neg hov,this]
  exact e
theorem Xr {st st':St} {dst:Option Tmp} {g:FuncId} {xs:List (TypeId×SV)} (e:st.call P cfg c dst g xs=some st'):Sup (fun c _=>st.call P cfg c dst g xs) c n st':=by
 unfold St.call at e ⊢
 replace e:=Option.or_eq_some_iff.1 e
 rcases e with e | ⟨-,e⟩
 ·obtain ⟨l,h⟩:=Um (n:=n) e
  refine ⟨l,fun c' n' hn hc=>?_⟩
  have hh:st.wB P cfg c' dst g xs=some st':=h c' n' hn hc
  show (st.wB P cfg c' dst g xs).or _=_
  rw [hh]
  rfl
 ·split at e
  ·rename_i SG
   unfold St.wU at e
   obtain ⟨q,e1,e⟩:=Option.bind_eq_some_iff.1 e
   obtain ⟨⟨m,t,a⟩,s1⟩:=q
   cases m with
   | sh=>
    cases a with
    | row z es=>
     simp only at e
     obtain ⟨st2,e2,e⟩:=Option.bind_eq_some_iff.1 e
     obtain ⟨l,h⟩:=Um (n:=n) e2
     refine ⟨l,fun c' n' hn hc=>?_⟩
     have hh:=h c' n' hn hc
     simp only at hh
     simp only [abW SG,Option.none_or,SG]
     unfold St.wU
     rw [e1]
     simp only [Option.bind_some,hh]
     exact e
    | _=>cases e
   | _=>cases e
  ·cases e
theorem adV {o:Oper} {st st':St} (e:aH P cfg c nt o st=some st'):Sup (fun c _=>aH P cfg c nt o st) c n st':=by
 cases ho:o.op with
 | call cl=>
  cases hc:cl.callee with
  | value g=>
   simp only [aH,ho,hc] at e ⊢
   generalize hg:st.get g=v at e ⊢
   cases v with
   | fn f cs=>
    simp only at e ⊢
    split at e
    ·rename_i hcond
     simp only [if_pos hcond]
     exact Xr e
    ·cases e
   | tup _=>cases e
   | v ag xs=>
    cases ag with
    | true=>cases e
    | false=>
     match xs,e with
     | [.im t (.clo f cs)],e=>
      simp only at e ⊢
      split at e
      ·rename_i hcond
       simp only [if_pos hcond]
       exact Xr e
      ·cases e
  | builtin b=>
   cases b<;>(simp only [aH,ho,hc] at e ⊢;exact .const fun _ _ _=>e)
  | _=>
   simp only [aH,ho,hc] at e ⊢
   exact .const fun _ _ _=>e
 | makeFunc fn first caps=>
  cases fn<;>(simp only [aH,ho] at e ⊢;exact .const fun _ _ _=>e)
 | slice t x lo hi mx=>
  cases mx<;>(simp only [aH,ho] at e ⊢;exact .const fun _ _ _=>e)
 | _=>
  simp only [aH,ho] at e ⊢
  exact .const fun _ _ _=>e
theorem KY {i:Nat} {st st':St} (e:oV P cfg c f nt ops i st=some st'):Sup (fun c _=>oV P cfg c f nt ops i st) c n st':=by
 unfold oV at e ⊢
 cases hi:ops[i]? with
 | none=>rw [hi] at e;exact .const fun _ _ _=>by simpa [hi] using e
 | some o=>
  rw [hi] at e
  simp only at e ⊢
  have go:∀{st'},((aH P cfg c nt o st).map fun st=>match o.dst with | some d=>bif (cfg.fc f).frz.any (·.beq d) then st.vV ((fC P o.type).getD []) d else st | none=>st)=some st'→
   Sup (fun c _=>(aH P cfg c nt o st).map fun st=>match o.dst with | some d=>bif (cfg.fc f).frz.any (·.beq d) then st.vV ((fC P o.type).getD []) d else st | none=>st) c n st':=by
   intro st' e
   obtain ⟨x,h1,h2⟩:=Option.map_eq_some_iff.1 e
   subst h2
   exact (adV h1).map
  cases hg:o.guard with
  | none=>rw [hg] at e;exact go e
  | some p=>
   obtain ⟨j,want⟩:=p
   rw [hg] at e
   obtain ⟨y,hy,e⟩:=Option.bind_eq_some_iff.1 e
   simp only [hy,Option.bind_some]
   by_cases hw:y=some want
   ·simp only [if_pos hw] at e ⊢
    exact go e
   ·simp only [if_neg hw] at e ⊢
    exact .const fun _ _ _=>e
theorem Un:∀(l:List Nat) {st st':St},KH P cfg c f nt ops l st=some st'→Sup (fun c _=>KH P cfg c f nt ops l st) c n st'
 | [],st,st',e=> .const fun _ _ _=>e
 | i::l,st,st',e=>by
  simp only [KH] at e ⊢
  obtain ⟨x,h1,h2⟩:=Option.bind_eq_some_iff.1 e
  exact (KY h1).bind (Un l h2)
theorem Ep {k:Option (List Nat×List Nat)}:∀(s:Sch) {κ:List (List Nat×List Nat)} {st st':St},gp P cfg c f nt ops k κ s st=some st'→Sup (fun c _=>gp P cfg c f nt ops k κ s st) c n st'
 | .done,κ,st,st',e=> .const fun _ _ _=>e
 | .first i ws us t,κ,st,st',e=>by
  simp only [gp] at e ⊢
  split at e
  ·rename_i hok
   simp only [if_pos hok]
   obtain ⟨x,h1,h2⟩:=Option.bind_eq_some_iff.1 e
   exact (KY h1).bind (Ep t h2)
  ·rename_i hok
   simp only [if_neg hok]
   split at e
   ·rename_i hfz
    simp only [if_pos hfz]
    obtain ⟨x,h1,h2⟩:=Option.bind_eq_some_iff.1 e
    exact (KY h1).bind (Ep t h2)
   ·cases e
 | .fork i t r,κ,st,st',e=>by
  simp only [gp] at e
  obtain ⟨x,h1,e⟩:=Option.bind_eq_some_iff.1 e
  split at e
  ·rename_i hc
   obtain ⟨hk,hc⟩:=hc
   obtain ⟨l0,hl0⟩:=KY (n:=n) h1
   obtain ⟨l1,hl1⟩:=Ep t e
   rcases hc with hc | hc
   ·refine ⟨l0++l1,fun c' n' hn hx=>?_⟩
    have q0:=hl0 c' n' hn (fun x hm=>hx x (by simp [hm]))
    have q1:=hl1 c' n' hn (fun x hm=>hx x (by simp [hm]))
    simp only at q0 q1
    simp only [gp,q0,Option.bind_some]
    rw [if_pos ⟨hk,.inl hc⟩]
    exact q1
   ·obtain ⟨l2,hl2⟩:=Ep r (hc.trans e)
    refine ⟨l0++(l1++l2),fun c' n' hn hx=>?_⟩
    have q0:=hl0 c' n' hn (fun x hm=>hx x (by simp [hm]))
    have q1:=hl1 c' n' hn (fun x hm=>hx x (by simp [hm]))
    have q2:=hl2 c' n' hn (fun x hm=>hx x (by simp [hm]))
    simp only at q0 q1 q2
    simp only [gp,q0,Option.bind_some]
    rw [if_pos ⟨hk,.inr (q2.trans q1.symm)⟩]
    exact q1
  ·cases e
 | .stop,κ,st,st',e=>by cases e
theorem Xt {step:yc→Nat→St→Option (Ex×St)} {k:List Nat×List Nat} (hs:∀st p,step c n st=some p→Sup (fun c n=>step c n st) c n p):
 ∀(m:Nat) {st:St} {p:Ex×St},Bi (step c n) k m st=some p→∃l:List (FuncId×List Arg),∀c' n' m',n≤n'→m≤m'→(∀x∈l,∀r,c x.1 x.2=some r→c' x.1 x.2=some r)→Bi (step c' n') k m' st=some p
 | 0,st,p,e=>by cases e
 | m+1,st,p,e=>by
  simp only [Bi] at e
  obtain ⟨⟨x,st1⟩,h1,h2⟩:=Option.bind_eq_some_iff.1 e
  obtain ⟨l1,hl1⟩:=hs _ _ h1
  have fin:∀{l:List (FuncId×List Arg)},(∀c' n' m',n≤n'→m≤m'→(∀x∈l,∀r,c x.1 x.2=some r→c' x.1 x.2=some r)→(match x with | .normal=>Bi (step c' n') k m' st1 | e=>some (e,st1))=some p)→
   ∃l:List (FuncId×List Arg),∀c' n' m',n≤n'→m+1≤m'→(∀x∈l,∀r,c x.1 x.2=some r→c' x.1 x.2=some r)→Bi (step c' n') k m' st=some p:=by
   intro l hl
   refine ⟨l1++l,fun c' n' m' hn hm hx=>?_⟩
   cases m' with
   | zero=>omega
   | succ m'=>
    have q1:=hl1 c' n' hn (fun x hm=>hx x (by simp [hm]))
    simp only at q1
    simp only [Bi,q1,Option.bind_some]
    exact hl c' n' m' hn (by omega) (fun x hm=>hx x (by simp [hm]))
  cases x with
  | normal=>
   obtain ⟨l2,hl2⟩:=Xt hs m h2
   exact fin (l:=l2) fun c' n' m' hn hm hx=>hl2 c' n' m' hn hm hx
  | exit i=>exact fin (l:=[]) fun c' n' m' hn hm hx=>h2
  | ret=>exact fin (l:=[]) fun c' n' m' hn hm hx=>h2
theorem qJ:∀(cd:Code) {st:St} {p:Ex×St},dL P cfg c f nt n cd st=some p→Sup (fun c n=>dL P cfg c f nt n cd st) c n p
 | .skip,st,p,e=> .const fun _ _ _=>e
 | .exit _,st,p,e=> .const fun _ _ _=>e
 | .ret,st,p,e=> .const fun _ _ _=>e
 | .region id ops false,st,p,e=>by
  simp only [dL] at e ⊢
  obtain ⟨x,h1,h2⟩:=Option.map_eq_some_iff.1 e
  subst h2
  exact (Un _ h1).map
 | .region id ops true,st,p,e=>by
  simp only [dL] at e ⊢
  obtain ⟨x,h1,h2⟩:=Option.map_eq_some_iff.1 e
  subst h2
  exact (Ep _ h1).map
 | .seq a b,st,p,e=>by
  simp only [dL] at e ⊢
  obtain ⟨⟨x,st1⟩,h1,h2⟩:=Option.bind_eq_some_iff.1 e
  refine (qJ a h1).bind ?_
  cases x with
  | normal=>exact qJ b h2
  | exit i=>exact .const fun _ _ _=>h2
  | ret=>exact .const fun _ _ _=>h2
 | .cond x a b,st,p,e=>by
  simp only [dL] at e ⊢
  obtain ⟨t,ht,e⟩:=Option.bind_eq_some_iff.1 e
  simp only [ht,Option.bind_some]
  cases t with
  | true=>exact qJ a e
  | false=>exact qJ b e
 | .block id a,st,p,e=>by
  simp only [dL] at e ⊢
  obtain ⟨x,h1,h2⟩:=Option.map_eq_some_iff.1 e
  subst h2
  exact (qJ a h1).map
 | .loop a,st,p,e=>by
  simp only [dL] at e ⊢
  obtain ⟨l,hl⟩:=Xt (step:=fun c n=>dL P cfg c f nt n a) (fun st p h=>qJ a h) n e
  exact ⟨l,fun c' n' hn hx=>hl c' n' n' hn hn hx⟩
 | .scope _,st,p,e=>by simp [dL] at e
 | .label _,st,p,e=>by simp [dL] at e
 | .goto _,st,p,e=>by simp [dL] at e
 | .rangeFunc ..,st,p,e=>by simp [dL] at e
 | .refuse _,st,p,e=>by simp [dL] at e
theorem Qr {fn:Func} {args:List Arg} {r:Res×List Out} (e:EL P cfg c n f fn args=some r):Sup (fun c n=>EL P cfg c n f fn args) c n r:=by
 unfold EL at e ⊢
 split at e
 ·cases e
 ·rename_i hl
  simp only [if_neg hl]
  obtain ⟨cd,h1,e⟩:=Option.bind_eq_some_iff.1 e
  simp only [h1,Option.bind_some]
  obtain ⟨p,h2,e⟩:=Option.bind_eq_some_iff.1 e
  exact (qJ cd h2).bind (.const fun _ _ _=>e)
theorem KZ:∀(n:Nat) {f:FuncId} {args:List Arg} {r:Res×List Out},evF P cfg n f args=some r→∀m,n≤m→evF P cfg m f args=some r
 | 0,f,args,r,e,m,_=>by cases e
 | n+1,f,args,r,e,0,hm=>by omega
 | n+1,f,args,r,e,m+1,hm=>by
  simp only [evF] at e ⊢
  cases hx:cfg.ext f with
  | some g=>rw [hx] at e;exact e
  | none=>
   rw [hx] at e
   simp only at e ⊢
   split at e
   ·rename_i hon
    rw [if_pos hon]
    obtain ⟨fn,h1,e⟩:=Option.bind_eq_some_iff.1 e
    obtain ⟨l,hl⟩:=Qr e
    simp only [h1,Option.bind_some]
    exact hl _ m (by omega) fun x _ r hr=>KZ n hr m (by omega)
   ·cases e
variable (P cfg) in
def FL (f:FuncId) (args:List Arg):Option (Res×List Out):=
 if h:∃r,∃n,evF P cfg n f args=some r then some (Classical.choose h) else none
theorem YJ {f:FuncId} {args:List Arg} {r:Res×List Out}:FL P cfg f args=some r↔∃n,evF P cfg n f args=some r:=by
 unfold FL
 constructor
 ·intro e
  split at e
  ·rename_i h
   cases e
   exact Classical.choose_spec h
  ·cases e
 ·rintro ⟨n,hn⟩
  have h:∃r,∃n,evF P cfg n f args=some r:=⟨r,n,hn⟩
  rw [dif_pos h]
  obtain ⟨m,hm⟩:=Classical.choose_spec h
  have h1:=KZ n hn (max n m) (Nat.le_max_left _ _)
  have h2:=KZ m hm (max n m) (Nat.le_max_right _ _)
  rw [h1] at h2
  exact h2.symm
theorem aju (l:List (FuncId×List Arg)):∃n,∀m,n≤m→∀x∈l,∀r,FL P cfg x.1 x.2=some r→evF P cfg m x.1 x.2=some r:=by
 induction l with
 | nil=>exact ⟨0,fun m _ x hx=>by cases hx⟩
 | cons y l ih=>
  obtain ⟨n,hn⟩:=ih
  by_cases h:∃r,FL P cfg y.1 y.2=some r
  ·obtain ⟨r,hr⟩:=h
   obtain ⟨n2,h2⟩:=YJ.1 hr
   refine ⟨max n n2,fun m hm x hx r' hr'=>?_⟩
   rcases List.mem_cons.1 hx with rfl | hx
   ·rw [hr] at hr';cases hr'
    exact KZ n2 h2 m (Nat.le_trans (Nat.le_max_right _ _) hm)
   ·exact hn m (Nat.le_trans (Nat.le_max_left _ _) hm) x hx r' hr'
  ·refine ⟨n,fun m hm x hx r' hr'=>?_⟩
   rcases List.mem_cons.1 hx with rfl | hx
   ·exact absurd ⟨r',hr'⟩ h
   ·exact hn m hm x hx r' hr'
theorem alx {fn:Func} {args:List Arg} {r:Res×List Out} {n:Nat} (hx:cfg.ext f=none) (hon:cfg.on f=true) (hf:P.funcs[f]?=some fn) (e:EL P cfg (FL P cfg) n f fn args=some r):FL P cfg f args=some r:=by
 obtain ⟨l,hl⟩:=Qr e
 obtain ⟨m,hm⟩:=aju (P:=P) (cfg:=cfg) l
 refine YJ.2 ⟨max n m+1,?_⟩
 simp only [evF,hx,hon,if_true,hf,Option.bind_some]
 exact hl _ _ (Nat.le_max_left _ _) fun x hm' r hr=>hm _ (Nat.le_max_right _ _) x hm' r hr
end
end
end Go.Sim
