/- A plain function's answer and what holds of it, step by step. Conditions: none. -/
import Derived.Test.YtngbehdgjocndaaGreatSimPn
namespace Go.Pw
open Go.Sim (min2 max2)
set_option linter.unusedVariables false
def Ev {β:Type} (o:Option β) (Q:β→Prop):Prop:=∃r,o=some r∧Q r
section
variable {α β γ σ ρ:Type} {Q:β→Prop}
theorem Ev.mono {P:β→Prop} {o:Option β} (h:Ev o P) (hq:∀r,P r→Q r):Ev o Q:=by
 obtain ⟨r,h1,h2⟩:=h
 exact ⟨r,h1,hq r h2⟩
theorem Ev.ret {r:β} (h:Q r):Ev (some r) Q:=⟨r,rfl,h⟩
theorem Ev.bind {o:Option α} {k:α→Option β} {P:α→Prop} (h:Ev o P) (hk:∀x,P x→Ev (k x) Q):Ev (o.bind k) Q:=by
 obtain ⟨x,h1,h2⟩:=h
 obtain ⟨r,h3,h4⟩:=hk x h2
 exact ⟨r,by rw [h1];exact h3,h4⟩
theorem Ev.ite {p:Prop} [Decidable p] {a b:Option β} (h1:p→Ev a Q) (h2:¬p→Ev b Q):Ev (if p then a else b) Q:=by
 by_cases h:p
 ·rw [if_pos h];exact h1 h
 ·rw [if_neg h];exact h2 h
theorem Ev.eq {o:Option β} {r:β} (h:o=some r):Ev o (fun x=>x=r):=⟨r,h,rfl⟩
theorem Ev.rw {o o':Option β} (h:o=o') (h2:Ev o' Q):Ev o Q:=by rw [h];exact h2
theorem Ev.rd {l:List α} {i:Int} (h0:0≤i) (h1:i<l.length):Ev (rd l i) (fun x=>x∈l∧∃j:Nat,i=(j:Int)∧l[j]?=some x):=by
 have hk:i.toNat<l.length:=by omega
 refine ⟨l[i.toNat],?_,List.getElem_mem hk,i.toNat,by omega,List.getElem?_eq_getElem hk⟩
 unfold Pw.rd
 rw [if_pos h0,List.getElem?_eq_getElem hk]
theorem Ev.apd {b:Nat} {l m:List α} (h:(l.length+m.length) *b≤140737488355328):Ev (apd b l m) (fun x=>x=l++m):=⟨_,X5 h,rfl⟩
theorem Ev.mkl {b:Nat} {n:Int} {z:α} (h0:0≤n) (h:n.toNat*b≤140737488355328):Ev (mkl b n z) (fun x=>x=List.replicate n.toNat z):=by
 unfold Pw.mkl
 rw [if_pos ⟨h0,h⟩]
 exact ⟨_,rfl,rfl⟩
theorem Ev.slc {l:List α} {lo hi:Int} (h0:0≤lo) (h1:lo≤hi) (h2:hi≤l.length):Ev (slc l lo hi) (fun x=>x=(l.take hi.toNat).drop lo.toNat):=by
 unfold Pw.slc
 rw [if_pos ⟨h0,h1,h2⟩]
 exact ⟨_,rfl,rfl⟩
theorem Ev.cat {a b:ByteArray} (h:a.size+b.size≤9223372036854775807):Ev (cat a b) (fun x=>x=a++b):=⟨_,RN h,rfl⟩
theorem Ev.loop {f:σ→Option (σ ⊕ ρ)} {N:ρ→Prop} (I:σ→Prop) (μ:σ→Nat) (h:∀s,I s→Ev (f s) (fun o=>match o with | .inl s'=>I s'∧μ s'<μ s | .inr r=>N r)) {s:σ} (hs:I s):Ev (aT f s) N:=by
 have key:∀n s,μ s≤n→I s→Ev (aT f s) N:=by
  intro n
  induction n with
  | zero=>
   intro s hn hs
   obtain ⟨o,h1,h2⟩:=h s hs
   cases o with
   | inl s'=>exact absurd h2.2 (by omega)
   | inr r=>exact ⟨r,dG h1,h2⟩
  | succ n ih=>
   intro s hn hs
   obtain ⟨o,h1,h2⟩:=h s hs
   cases o with
   | inl s'=>
    rw [iO h1]
    exact ih s' (by omega) h2.1
   | inr r=>exact ⟨r,dG h1,h2⟩
 exact key _ s (Nat.le_refl _) hs
end
end Go.Pw
