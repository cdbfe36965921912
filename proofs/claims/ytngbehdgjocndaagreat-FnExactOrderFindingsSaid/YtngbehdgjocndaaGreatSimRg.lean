/- A law of a row: from the answer of the machine to a call of the program. Conditions: none. -/
import Derived.Test.YtngbehdgjocndaaGreatSimRf
namespace Go.Sim
open Go.Pw
set_option linter.unusedSimpArgs false
set_option linter.unusedVariables false
inductive afJ (w:World) (Fp:Nat→Prop):Arg→Value→Prop
 | one {t a v}:@CRi ⟨w.heap.size⟩ w Fp [a] [v]→afJ w Fp (.im t false [a]) v
 | agg {t cs us}:@CRi ⟨w.heap.size⟩ w Fp cs us.toList→afJ w Fp (.im t true cs) (.agg us)
inductive Jv (w:World) (Fp:Nat→Prop):List Arg→List Value→Prop
 | nil:Jv w Fp [] []
 | cons {x xs v vs}:afJ w Fp x v→Jv w Fp xs vs→Jv w Fp (x::xs) (v::vs)
theorem Jv.length {w:World} {Fp:Nat→Prop} {xs:List Arg} {vs:List Value} (h:Jv w Fp xs vs):vs.length=xs.length:=by
 induction h<;>simp_all
theorem Jv.get {w:World} {Fp:Nat→Prop} {xs:List Arg} {vs:List Value} (h:Jv w Fp xs vs):∀(i:Nat) x,xs[i]?=some x→∃v,vs[i]?=some v∧afJ w Fp x v:=by
 induction h with
 | nil=>intro i x hx;simp at hx
 | cons h1 h2 ih=>
  intro i x hx
  cases i with
  | zero=>simp at hx;subst hx;exact ⟨_,rfl,h1⟩
  | succ i=>simpa using ih i x (by simpa using hx)
def RU (w:World):Wit where
 F:=fun _ b=>b<w.heap.size
 vals:=fun _=>[]
 blk:=fun _=>0
 fp:=fun _ _=>none
 us:=fun _ _=>[]
 own:=fun _=>none
theorem RRs.anu [Lim] {w:World} {W:Wit} {L:Nat→Option Obj} {t:Nat} {cs:List AV} {vs:List Value} (hF:∀t,W.F t=W.F 0) (h:CRi w (W.F 0) cs vs):RRs w W L (cs.map (RV.im t)) vs:=by
 induction cs generalizing vs with
 | nil=>cases h;exact .nil
 | cons a as ih=>
  obtain ⟨v,us,rfl,h1,h2⟩:=CRi.cons_inv h
  exact .cons (by show CRi w _ _ _;rw [hF];exact h1) (ih h2)
theorem akX {w:World} {args:List Arg} {vs:List Value} (h:Jv w (fun b=>b<w.heap.size) args vs) (n:Nat) (hn:vs.length≤n):
 @Rel ⟨w.heap.size⟩ (jK w (RU w) n) (entry args) (tZ vs n) w (RU w):=by
 letI:Lim:=⟨w.heap.size⟩
 have hL:∀o ob,(entry args).L o=some ob→False:=by
  intro o ob e
  simp only [entry,List.map_map] at e
  have e0:=KW none (fun j x=>(y9 j x).2) args 0 o
  rw [show look none (List.map (fun p=>(p.2,(fun j x=>(y9 j x).2) p.2 p.1)) args.zipIdx) o=some ob from e] at e0
  replace e:=e0.symm
  simp only [Nat.zero_le,if_true,Nat.sub_zero] at e
  split at e
  ·rename_i x hx
   obtain ⟨v,_,hv⟩:=h.get _ _ hx
   cases hv<;>cases e
  ·cases e
 exact {
  f01:=fun b hb=>hb
  f12:=fun b hb=>hb
  fb:=fun t b hb=>hb
  I9:=fun t b hb=> .inl hb
  qF:=fun b hb=>rfl
  flt:=fun b hb=>hb
  olt:=fun b x hb=>by cases hb
  iJ:=fun o ob e=>(hL o ob e).elim
  slots:=fun t=>by
   show SR w (RU w) (entry args).L ((entry args).sl t) _
   have e0:=KW .qC (fun j x=>(y9 j x).1) args 0 t
   have e1:(entry args).sl t=look .qC (List.map (fun p=>(p.2,(fun j x=>(y9 j x).1) p.2 p.1)) args.zipIdx) t:=by
    simp only [entry,List.map_map];rfl
   rw [e1,e0]
   simp only [Nat.zero_le,if_true,Nat.sub_zero]
   split
   ·rename_i x hx
    obtain ⟨v,hv,hx'⟩:=h.get _ _ hx
    have e:(tZ vs n).tmps.getD t undef=v:=by
     have hl:t<vs.length:=by
      rcases Nat.lt_or_ge t vs.length with h' | h'
      ·exact h'
      ·rw [List.getElem?_eq_none h'] at hv;cases hv
     simp only [tZ,Array.getD_eq_getD_getElem?]
     rw [Array.getElem?_append_left (by simpa using hl)]
     simp [hv]
    rw [e]
    cases hx' with
    | one h1=>exact .inr ⟨rfl,_,rfl,by exact h1⟩
    | agg h1=>exact .inl ⟨rfl,_,rfl,RRs.anu (W:=RU w) (fun _=>rfl) h1⟩
   ·exact .inr ⟨rfl,_,rfl,trivial⟩
  frame:=fun b _ _=>rfl
  size:=Nat.le_refl _
  io:=⟨rfl,rfl⟩
  par:=fun o ob e=>(hL o ob e).elim
  defers:=rfl
  tmps:=by simp [tZ,jK];omega
  uf:=fun b hb=> .inl hb
  ouf:=fun b x hb=>by cases hb
  tsh:=fun b hb=>by cases hb}
theorem afK {P:Program} {cfg:Cfg} (hc:∀[Lim],ZZ P cfg) {f:FuncId} {args:List Arg} {b:Bool} (hF:FL P cfg f args=some ([(false,[.im 0 (.sc (.bool b))])],[]))
 {w:World} {vs:List Value} (h:Jv w (fun b=>b<w.heap.size) args vs) (hgb:∀p∈cfg.gb,p.1<w.heap.size∧∃arr T fr,w.heap[p.1]?=some (.cells arr T fr)∧p.2 arr:=by intro p hp;cases hp):
 Calls P f vs.toArray w fun e w'=>e= .returned (.bool b)∧(w'.os=w.os∧w'.output=w.output)∧w.heap.size≤w'.heap.size∧∀i,i<w.heap.size→w'.heap[i]?=w.heap[i]?:=by
 letI:Lim:=⟨w.heap.size⟩
 obtain ⟨n,hn⟩:=YJ.1 hF
 refine ((adU hc n).1 f args _ _ hn w vs (RU w) h.length ⟨Nat.le_refl _,fun p hp=>⟨(hgb p hp).1,(fun hl=>hl rfl),(hgb p hp).2⟩⟩ (fun m hm=>akX h m hm)).mono ?_
 rintro e w' ⟨v,m,rfl,st,a,W,us,hr,hret,rfl,_⟩
 refine ⟨?_,hr.io,hr.size,fun i hi=>hr.frame i hi (fun hl=>hl rfl)⟩
 rcases hret with ⟨o,ob,cs,v,e,_⟩ | hret
 ·cases e
 ·cases hret with
  | one h1 h2=>
   cases h2
   cases h1 with
   | im h3 h4=>
    cases h3
    rfl
end Go.Sim
