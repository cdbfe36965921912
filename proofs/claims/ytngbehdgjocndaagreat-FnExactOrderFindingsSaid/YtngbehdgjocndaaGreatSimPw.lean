/- Words for plain functions: reading of lists, sums with bounds, loops and recursion without fuel. Conditions: none. -/
import Derived.Test.YtngbehdgjocndaaGreatSimA
namespace Go.Pw
open Classical
abbrev w64 (n:Int):Int:=IntKind.i64.wrap n
def rd {α:Type} (l:List α) (i:Int):Option α:=if 0≤i then l[i.toNat]? else none
def bt (s:ByteArray) (i:Int):Option Int:=if 0≤i then (s.data.toList[i.toNat]?).map fun b=>(b.toNat:Int) else none
def dv (k:IntKind) (a b:Int):Option Int:=if b=0 then none else some (k.wrap (a.tdiv b))
def md (a b:Int):Option Int:=if b=0 then none else some (a.tmod b)
def slc {α:Type} (l:List α) (lo hi:Int):Option (List α):=if 0≤lo∧lo≤hi∧hi≤l.length then some ((l.take hi.toNat).drop lo.toNat) else none
def apd {α:Type} (b:Nat) (l m:List α):Option (List α):=if (l.length+m.length) *b≤140737488355328 then some (l++m) else none
def mkl {α:Type} (b:Nat) (n:Int) (z:α):Option (List α):=if 0≤n∧n.toNat*b≤140737488355328 then some (List.replicate n.toNat z) else none
def cat (a b:ByteArray):Option ByteArray:=if ((a.size+b.size:Nat):Int) >IntKind.i64.max then none else some (a++b)
def strOf (l:List Int):ByteArray:=⟨(l.map fun n=>UInt8.ofNat n.toNat).toArray⟩
def shl (k:IntKind) (a b:Int):Option Int:=if b<0 then none else some (k.wrap (a*2 ^ (min b.toNat k.bits)))
def shr (k:IntKind) (a b:Int):Option Int:=if b<0 then none else some (a.fdiv (2 ^ (min b.toNat k.bits)))
def need (p:Prop) [Decidable p]:Option Unit:=if p then some () else none
section
variable {α β γ δ:Type}
def Fs (Φ:(α→Option β)→Option γ):Prop:=∀f r,Φ f=some r→∃l:List α,∀g:α→Option β,(∀y∈l,∀s,f y=some s→g y=some s)→Φ g=some r
theorem Fs.const (x:Option γ):Fs (fun _:α→Option β=>x):=fun _ _ h=>⟨[],fun _ _=>h⟩
theorem Fs.app (y:α):Fs (fun f:α→Option β=>f y):=fun _ r h=>⟨[y],fun _ hg=>hg y (by simp) r h⟩
theorem Fs.bind {Φ:(α→Option β)→Option γ} {Ψ:γ→(α→Option β)→Option δ} (h1:Fs Φ) (h2:∀x,Fs (Ψ x)):Fs (fun f=>(Φ f).bind fun x=>Ψ x f):=by
 intro f r h
 obtain ⟨x,h3,h4⟩:=Option.bind_eq_some_iff.1 h
 obtain ⟨l1,q1⟩:=h1 f x h3
 obtain ⟨l2,q2⟩:=h2 x f r h4
 refine ⟨l1++l2,fun g hg=>?_⟩
 simp only [q1 g fun y hy=>hg y (by simp [hy]),Option.bind_some]
 exact q2 g fun y hy=>hg y (by simp [hy])
theorem Fs.ite {p:Prop} [Decidable p] {Φ Ψ:(α→Option β)→Option γ} (h1:Fs Φ) (h2:Fs Ψ):Fs (fun f=>if p then Φ f else Ψ f):=by
 by_cases h:p
 ·simpa only [if_pos h] using h1
 ·simpa only [if_neg h] using h2
theorem Fs.sum {ε:Type} {o:δ ⊕ ε} {Φ:δ→(α→Option β)→Option γ} {Ψ:ε→(α→Option β)→Option γ} (h1:∀x,Fs (Φ x)) (h2:∀x,Fs (Ψ x)):Fs (fun f=>match o with | .inl x=>Φ x f | .inr x=>Ψ x f):=by
 cases o with
 | inl x=>exact h1 x
 | inr x=>exact h2 x
def Ce (F:(α→Option β)→α→Option β):Nat→α→Option β
 | 0,_=>none
 | n+1,x=>F (Ce F n) x
noncomputable def JM (F:(α→Option β)→α→Option β) (x:α):Option β:=if h:∃r,∃n,Ce F n x=some r then some (Classical.choose h) else none
variable {F:(α→Option β)→α→Option β}
theorem Qu (hF:∀x,Fs (fun f=>F f x)):∀(n:Nat) {x:α} {r:β},Ce F n x=some r→Ce F (n+1) x=some r
 | 0,x,r,h=>by cases h
 | n+1,x,r,h=>by
  obtain ⟨l,hl⟩:=hF x _ r h
  exact hl (Ce F (n+1)) fun y _ s hs=>Qu hF n hs
theorem ES (hF:∀x,Fs (fun f=>F f x)) {n m:Nat} (hm:n≤m) {x:α} {r:β} (h:Ce F n x=some r):Ce F m x=some r:=by
 induction hm with
 | refl=>exact h
 | step _ ih=>exact Qu hF _ ih
theorem MN {x:α} {r:β} (h:JM F x=some r):∃n,Ce F n x=some r:=by
 unfold JM at h
 split at h
 ·rename_i h'
  cases h
  exact Classical.choose_spec h'
 ·cases h
theorem Z4 (hF:∀x,Fs (fun f=>F f x)) {x:α} {r:β} {n:Nat} (h:Ce F n x=some r):JM F x=some r:=by
 unfold JM
 have h':∃r,∃n,Ce F n x=some r:=⟨r,n,h⟩
 rw [dif_pos h']
 obtain ⟨m,hm⟩:=Classical.choose_spec h'
 have h1:=ES hF (Nat.le_max_left n m) h
 have h2:=ES hF (Nat.le_max_right n m) hm
 rw [h1] at h2
 exact h2.symm
theorem adW (hF:∀x,Fs (fun f=>F f x)) (l:List α):∃n,∀y∈l,∀s,JM F y=some s→Ce F n y=some s:=by
 induction l with
 | nil=>exact ⟨0,fun y hy=>by cases hy⟩
 | cons z l ih=>
  obtain ⟨n,hn⟩:=ih
  by_cases h:∃r,JM F z=some r
  ·obtain ⟨r,hr⟩:=h
   obtain ⟨m,hm⟩:=MN hr
   refine ⟨max n m,fun y hy s hs=>?_⟩
   rcases List.mem_cons.1 hy with rfl | hy
   ·rw [hr] at hs;cases hs
    exact ES hF (Nat.le_max_right _ _) hm
   ·exact ES hF (Nat.le_max_left _ _) (hn y hy s hs)
  ·refine ⟨n,fun y hy s hs=>?_⟩
   rcases List.mem_cons.1 hy with rfl | hy
   ·exact absurd ⟨s,hs⟩ h
   ·exact hn y hy s hs
theorem agz (hF:∀x,Fs (fun f=>F f x)) (x:α):JM F x=F (JM F) x:=by
 have up:∀{r},F (JM F) x=some r→JM F x=some r:=by
  intro r h
  obtain ⟨l,hl⟩:=hF x _ r h
  obtain ⟨n,hn⟩:=adW hF l
  exact Z4 hF (n:=n+1) (hl _ hn)
 cases h:F (JM F) x with
 | some r=>exact up h
 | none=>
  cases h':JM F x with
  | none=>rfl
  | some r=>
   obtain ⟨n,hn⟩:=MN h'
   cases n with
   | zero=>cases hn
   | succ n=>
    obtain ⟨l,hl⟩:=hF x _ r hn
    have:F (JM F) x=some r:=hl (JM F) fun y _ s hs=>Z4 hF hs
    rw [h] at this
    cases this
def Ur (f:α→Option (α ⊕ β)) (self:α→Option β) (s:α):Option β:=(f s).bind fun o=>match o with | .inl s'=>self s' | .inr r=>some r
theorem adX (f:α→Option (α ⊕ β)) (s:α):Fs (fun g=>Ur f g s):=Fs.bind (Fs.const _) fun o=>by
 cases o with
 | inl y=>exact Fs.app y
 | inr r=>exact Fs.const _
noncomputable def aT (f:α→Option (α ⊕ β)):α→Option β:=JM (Ur f)
theorem Xu (f:α→Option (α ⊕ β)) (s:α):aT f s=(f s).bind fun o=>match o with | .inl s'=>aT f s' | .inr r=>some r:=agz (adX f) s
theorem iO {f:α→Option (α ⊕ β)} {s s':α} (h:f s=some (.inl s')):aT f s=aT f s':=by
 rw [Xu,h];rfl
theorem dG {f:α→Option (α ⊕ β)} {s:α} {r:β} (h:f s=some (.inr r)):aT f s=some r:=by
 rw [Xu,h];rfl
theorem Qv {f:α→Option (α ⊕ β)} {s:α} {r:β} (h:aT f s=some r):∃n,Ce (Ur f) n s=some r:=MN h
theorem Fs.loop {δ ε:Type} {Φ:(α→Option β)→δ→Option (δ ⊕ ε)} (hΦ:∀s,Fs (fun g=>Φ g s)) (s0:δ):Fs (fun g=>aT (Φ g) s0):=by
 intro f r h
 obtain ⟨n,hn⟩:=Qv h
 clear h
 induction n generalizing s0 with
 | zero=>cases hn
 | succ n ih=>
  simp only [Ce,Ur] at hn
  obtain ⟨o,h1,h2⟩:=Option.bind_eq_some_iff.1 hn
  obtain ⟨l1,q1⟩:=hΦ s0 f o h1
  cases o with
  | inl s'=>
   obtain ⟨l2,q2⟩:=ih s' h2
   refine ⟨l1++l2,fun g hg=>?_⟩
   show aT (Φ g) s0=some r
   rw [iO (q1 g fun y hy=>hg y (by simp [hy]))]
   exact q2 g fun y hy=>hg y (by simp [hy])
  | inr r'=>
   cases h2
   exact ⟨l1,fun g hg=>dG (q1 g hg)⟩
end
end Go.Pw
