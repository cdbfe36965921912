/- A loop of the program and a loop of plain functions. Conditions: none. -/
import Derived.Test.YtngbehdgjocndaaGreatSimRa
import Derived.Test.YtngbehdgjocndaaGreatSimPw
namespace Go.Sim
open Go.Pw
set_option linter.unusedSimpArgs false
set_option linter.unusedVariables false
noncomputable section
variable {P:Program} {cfg:Cfg} {f nt:Nat} {ks:List Fr} {st:St} {Q:Ex×St→Prop} {c:Code}
theorem Xv {σ ρ:Type} {k:List Nat×List Nat} (g:σ→Option (σ ⊕ ρ)) (S:σ→St) (O:ρ→Ex×St→Prop) (hne:∀r p,O r p→p.1≠ .normal)
 (hstep:∀s o,g s=some o→Go P cfg f nt c [] (S s) (fun p=>match o with | .inl s'=>p.1= .normal∧p.2.norm k=S s' | .inr r=>O r p)):
 ∀(m:Nat) {s0:σ} {r:ρ} {st:St},st.norm k=S s0→Ce (Ur g) m s0=some r→∃p,O r p∧∃n,∀n',n≤n'→Bi (dL P cfg (FL P cfg) f nt n' c) k n' st=some p
 | 0,s0,r,st,hs,hg=>by cases hg
 | m+1,s0,r,st,hs,hg=>by
  simp only [Ce,Ur] at hg
  obtain ⟨o,h1,h2⟩:=Option.bind_eq_some_iff.1 hg
  obtain ⟨⟨e,st1⟩,⟨n1,hn1⟩,hq⟩:=hstep s0 o h1
  cases o with
  | inl s'=>
   obtain ⟨q1,q2⟩:e= .normal∧st1.norm k=S s':=hq
   subst q1
   obtain ⟨p,hp,n2,hn2⟩:=Xv g S O hne hstep m q2 h2
   obtain ⟨l,hl⟩:=qJ c hn1
   refine ⟨p,hp,max n1 n2+1,fun n' hn'=>?_⟩
   have hrun:dL P cfg (FL P cfg) f nt n' c (st.norm k)=some (.normal,st1):=by
    rw [hs];exact Qs hn1 (by omega)
   obtain ⟨n',rfl⟩:∃x,n'=x+1:=⟨n' - 1,by omega⟩
   have h3:=hn2 (n'+1) (by omega)
   simp only [Bi,hrun,Option.bind_some]
   have h4:=hn2 n' (by omega)
   have:∀(a b j:Nat) {st:St},a≤b→Bi (dL P cfg (FL P cfg) f nt a c) k j st=some p→Bi (dL P cfg (FL P cfg) f nt b c) k j st=some p:=by
    intro a b j
    induction j with
    | zero=>intro st _ h;cases h
    | succ j ih=>
     intro st hab h
     simp only [Bi] at h ⊢
     obtain ⟨⟨x,sx⟩,g1,g2⟩:=Option.bind_eq_some_iff.1 h
     rw [Qs g1 hab]
     simp only [Option.bind_some]
     cases x with
     | normal=>exact ih hab g2
     | _=>exact g2
   exact this n' (n'+1) n' (by omega) h4
  | inr r'=>
   cases h2
   have hq':O r (e,st1):=hq
   refine ⟨(e,st1),hq',n1+1,fun n' hn'=>?_⟩
   obtain ⟨n',rfl⟩:∃x,n'=x+1:=⟨n' - 1,by omega⟩
   have hrun:dL P cfg (FL P cfg) f nt (n'+1) c (st.norm k)=some (e,st1):=by
    rw [hs];exact Qs hn1 (by omega)
   simp only [Bi,hrun,Option.bind_some]
   have:=hne _ _ hq'
   cases e with
   | normal=>exact absurd rfl this
   | _=>rfl
theorem Go.loop {σ ρ:Type} {k:List Nat×List Nat} (hk:look ([],[]) (cfg.fc f).aO (tV c)=k) (g:σ→Option (σ ⊕ ρ)) (S:σ→St) (O:ρ→Ex×St→Prop) {s0:σ} {r:ρ}
 (hg:aT g s0=some r) (hs:st.norm k=S s0) (hne:∀r p,O r p→p.1≠ .normal)
 (hstep:∀s o,g s=some o→Go P cfg f nt c [] (S s) (fun p=>match o with | .inl s'=>p.1= .normal∧p.2.norm k=S s' | .inr r=>O r p))
 (h:∀p,O r p→Unw P cfg f nt ks p Q):Go P cfg f nt (.loop c) ks st Q:=by
 obtain ⟨m,hm⟩:=Qv hg
 obtain ⟨p,hp,n,hn⟩:=Xv (P:=P) (cfg:=cfg) (f:=f) (nt:=nt) g S O hne hstep m hs hm
 exact ⟨p,⟨n,by simp only [dL,hk];exact hn n (Nat.le_refl _)⟩,h p hp⟩
theorem Go.join (J:St→Prop) (hJ:∀st,J st→Unw P cfg f nt ks (.normal,st) Q) (h:(∀st,J st→Unw P cfg f nt ks (.normal,st) Q)→Go P cfg f nt c ks st Q):Go P cfg f nt c ks st Q:=h hJ
end
end Go.Sim
