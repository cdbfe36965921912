/- What is taken out of an object, and what is made immutable: the laws of 'take', 'view', 'freeze'. Conditions: none. -/
import Derived.Test.YtngbehdgjocndaaGreatSimD
namespace Go.Sim
variable [Lim]
open Classical
set_option linter.unusedSimpArgs false
set_option linter.unusedVariables false
noncomputable section
omit [Lim] in
theorem qH {a b:Nat} (h:Nat.ble a b=true):a≤b:=Nat.le_of_ble_eq_true h
omit [Lim] in
theorem zi {a b:Nat} (h:Nat.blt a b=true):a<b:=Nat.le_of_ble_eq_true h
omit [Lim] in
theorem beq_eq {a b:Nat} (h:a.beq b=true):a=b:=Nat.eq_of_beq_eq_true h
omit [Lim] in
theorem xW {st:St} {o s:Nat} {ob:Obj} (h:st.obj o s=some ob):st.L o=some ob∧ob.gen=s:=by
 unfold St.obj at h
 cases hL:st.L o with
 | none=>simp [hL] at h
 | some x=>
  simp only [hL,Option.bind_some] at h
  cases hb:x.gen.beq s with
  | false=>simp [hb] at h
  | true=>simp [hb] at h;subst h;exact ⟨rfl,beq_eq hb⟩
omit [Lim] in
theorem eF {st:St} {o s c:Nat} {p:Obj×Cell} (h:st.cell o s c=some p):st.L o=some p.1∧p.1.cs[c]?=some p.2∧p.2.s=s:=by
 unfold St.cell at h
 cases hL:st.L o with
 | none=>simp [hL] at h
 | some ob=>
  simp only [hL,Option.bind_some] at h
  cases hx:ob.cs[c]? with
  | none=>simp [hx] at h
  | some x=>
   simp only [hx,Option.bind_some] at h
   cases hb:x.s.beq s with
   | false=>simp [hb] at h
   | true=>simp [hb] at h;subst h;exact ⟨rfl,hx,beq_eq hb⟩
def mg (w:World) (W:Wit) (k:Nat) (x:CV) (v:Value):Prop:=
 match x.m with
 | .imm=>CRi w (W.F (tg (dm x.t x.a))) [x.a] [v]
 | .sh=>∃sz es ob,x.a= .row sz es∧kJ w (W.F (tg x.t)) sz es v ob∧∀b,ob=some b→W.own b=some (.det k)
 | .gone=>False
 | .dp _=>∃sz es us bs,x.a= .row sz es∧Deep w (W.F (tg x.t)) none sz es v us bs∧bs.Nodup∧∀b∈bs,W.own b=some (.det k)
 | .dd ..=>False
 | .ws=>CRs w (fun b=>W.own b=some (.tr true)) [x.a] [v]
 | .fr=>CRi w (fun b=>W.own b=some (.tr false)) [x.a] [v]
theorem mg.step {w w':World} {W W':Wit} {k:Nat} {x:CV} {v:Value} (h:mg w W k x v) (hF:∀t b,W.F (tg t) b→W'.F (tg t) b∧w'.heap[b]?=w.heap[b]?)
 (hd:∀b,W.own b=some (.det k)→W'.own b=some (.det k)∧w'.heap[b]?=w.heap[b]?) (hD:TrK w w' W W'):mg w' W' k x v:=by
 obtain ⟨m,t,y⟩:=x
 cases m with
 | imm=>exact CRi.mono (fun b hb=>hF _ b hb) h
 | gone=>exact h
 | sh=>
  obtain ⟨sz,es,ob,he,ho,hb⟩:=h
  exact ⟨sz,es,ob,he,ho.mono (fun b hb=>hF _ b hb) (fun b hb'=>(hd b (hb b hb')).2),fun b hb'=>(hd b (hb b hb')).1⟩
 | dp n=>
  obtain ⟨sz,es,us,bs,he,ho,hn,hb⟩:=h
  exact ⟨sz,es,us,bs,he,ho.mono (fun b hb=>hF _ b hb) (fun b hb'=>(hd b (hb b hb')).2),hn,fun b hb'=>(hd b (hb b hb')).1⟩
 | dd n i j=>exact h
 | ws=>exact CRs.mono (fun b hb=>hD.2 b hb) h
 | fr=>exact CRi.mono (fun b hb=>hD.1 b hb) h
section
variable {B:Base} {st:St} {a:Act} {w:World} {W:Wit}
theorem WI {o c:Nat} {ob:Obj} {x:Cell} (h:Jq w W o ob) (hx:ob.cs[c]?=some x):∃v,(W.vals o)[c]?=some v:=by
 have hc:c<ob.cs.length:=by
  rcases Nat.lt_or_ge c ob.cs.length with h' | h'
  ·exact h'
  ·rw [List.getElem?_eq_none h'] at hx;cases hx
 have:c< (W.vals o).length:=by rw [h.len];exact hc
 exact ⟨_,List.getElem?_eq_getElem this⟩
theorem Rel.cellAt (h:Rel B st a w W) {o s c:Nat} {p:Obj×Cell} (hc:st.cell o s c=some p):∃v,(W.vals o)[c]?=some v∧GH w W o c p.2 v∧Jq w W o p.1:=by
 obtain ⟨h1,h2,h3⟩:=eF hc
 have ho:=h.iJ o p.1 h1
 obtain ⟨v,hv⟩:=WI ho h2
 exact ⟨v,hv,ho.cells c p.2 v h2 hv,ho⟩
omit [Lim] in
theorem JA {cs:List Cell} {c j:Nat} {f:Cell→Cell} {x':Cell} (h:(cs.modify c f)[j]?=some x'):∃x,cs[j]?=some x∧x'=if c=j then f x else x:=by
 rw [List.getElem?_modify] at h
 cases hx:cs[j]? with
 | none=>simp [hx] at h
 | some x=>simp [hx] at h;exact ⟨x,rfl,h.symm⟩
omit [Lim] in
theorem Ext.bQ {o c:Nat} {ob:Obj} {m:OM} {W':Wit} (hL:st.L o=some ob) (hv:∀o,W'.vals o=W.vals o) (hb:∀o,W'.blk o=W.blk o) (hu:∀o,W'.us o=W.us o)
 (hd:∀x,ob.cs[c]?=some x→qG x.m m True) (hm:∀x,ob.cs[c]?=some x→m= .gone∨x.m≠ .gone):Ext st.L W (st.setObj o (ob.bQ c m)).L W':=by
 intro o' ob' hL'
 by_cases e:o'=o
 ·subst e
  rw [hL] at hL';cases hL'
  refine ⟨ob.bQ c m,by simp [St.setObj,upd_same],Nat.le_refl _,Nat.le_refl _,fun j x' hx'=> .inr ?_,fun _=>⟨rfl,hb _⟩⟩
  obtain ⟨x,hx,rfl⟩:=JA hx'
  refine ⟨x,hx,?_,by rw [hv],?_,?_⟩
  ·split<;>rfl
  ·intro hne
   by_cases e:c=j
   ·subst e
    rw [if_pos rfl] at hne ⊢
    refine ⟨?_,fun sz es he=>⟨es,he,rfl⟩⟩
    rcases hm x hx with h1 | h1
    ·exact absurd h1 hne
    ·exact h1
   ·rw [if_neg e] at hne ⊢
    exact ⟨hne,fun sz es he=>⟨es,he,rfl⟩⟩
  ·by_cases e:c=j
   ·subst e
    rw [if_pos rfl]
    exact (hd x hx).trans (qG.same (e:=W'.us o'=W.us o') (hu _)) fun _ h=>by rw [h]
   ·rw [if_neg e]
    exact qG.same (by rw [hu])
 ·refine ⟨ob',by simp [St.setObj,upd_ne _ _ e];exact hL',Nat.le_refl _,Nat.le_refl _,fun j x hx=> .inr ⟨x,hx,rfl,by rw [hv],fun hm=>⟨hm,fun _ es he=>⟨es,he,rfl⟩⟩,qG.same (by rw [hu])⟩,fun _=>⟨rfl,hb _⟩⟩
def Wit.xC (W:Wit) (S:Nat→Prop) (x:Option nD):Wit:={W with own:=fun b=>if S b then x else W.own b}
def Wit.still (W:Wit) (S:Nat→Prop):Wit:={W with F:=fun t b=>W.F t b∨S b,own:=fun b=>if S b then none else W.own b}
omit [Lim] in
theorem II (W:Wit) {S:Nat→Prop} {b:Nat} (h:S b):(W.still S).own b=none:=by simp [Wit.still,h]
omit [Lim] in
theorem xE (W:Wit) {S:Nat→Prop} {b:Nat} (h:¬S b):(W.still S).own b=W.own b:=by simp [Wit.still,h]
omit [Lim] in
theorem MG (W:Wit) {S:Nat→Prop} {x:Option nD} {b:Nat} (h:S b):(W.xC S x).own b=x:=by simp [Wit.xC,h]
omit [Lim] in
theorem kS (W:Wit) {S:Nat→Prop} {x:Option nD} {b:Nat} (h:¬S b):(W.xC S x).own b=W.own b:=by simp [Wit.xC,h]
theorem KI {W':Wit} {o c:Nat} {ob:Obj} {m:OM} (iq:Jq w W o ob) (hF:∀t b,W.F t b→W'.F t b) (hv:∀o,W'.vals o=W.vals o) (hp:∀o,W'.fp o=W.fp o) (hu:∀o,W'.us o=W.us o)
 (hne:∀b x,W.own b=some x→x≠ .cell o c→W'.own b=some x) (hnew:∀x v,ob.cs[c]?=some x→(W.vals o)[c]?=some v→GH w W' o c {x with m} v):
 ∀(j:Nat) x v,(ob.bQ c m).cs[j]?=some x→(W'.vals o)[j]?=some v→GH w W' o j x v:=by
 intro j x' u hx' hu'
 rw [hv] at hu'
 obtain ⟨x,hx0,rfl⟩:=JA hx'
 by_cases ej:c=j
 ·subst ej;rw [if_pos rfl];exact hnew x u hx0 hu'
 ·rw [if_neg ej]
  have:=iq.cells j x u hx0 hu'
  have hown:∀b,W.own b=some (.cell o j)→W'.own b=some (.cell o j):=fun b hb=>hne b _ hb (by intro e;exact ej (by injection e with _ e;exact e.symm))
  obtain ⟨md,s',t',z⟩:=x
  cases md with
  | imm=>exact CRi.mono (fun b hb=>⟨hF _ b hb,rfl⟩) this
  | gone=>trivial
  | ws=>exact CRs.mono (fun b hb=>⟨hne b _ hb (by intro e;cases e),.inl rfl⟩) this
  | fr=>exact CRi.mono (fun b hb=>⟨hne b _ hb (by intro e;cases e),rfl⟩) this
  | sh=>
   cases z with
   | row sz' es'=>exact ⟨by rw [hp];exact this.1.mono (fun b hb=>⟨hF _ b hb,rfl⟩) fun _ _=>rfl,fun b hb=>hown b (this.2 b (by rw [←hp];exact hb))⟩
   | _=>exact this.elim
  | dp n=>
   cases z with
   | row sz' es'=>
    obtain ⟨bs,h1,h2,h3⟩:=this
    exact ⟨bs,by rw [hu];exact h1.mono (fun b hb=>⟨hF _ b hb,rfl⟩) fun _ _=>rfl,h2,fun b hb=>hown b (h3 b hb)⟩
   | _=>exact this.elim
  | dd n i j=>
   cases z with
   | row sz' es'=>
    obtain ⟨bs,h1,h2,h3⟩:=this
    exact ⟨bs,by rw [hu];exact h1.mono (fun b hb=>⟨hF _ b hb,rfl⟩) fun _ _=>rfl,h2,fun b hb=>hown b (h3 b hb)⟩
   | _=>exact this.elim
theorem Om {o c:Nat} {ob:Obj} {m:OM} (iq:Jq w W o ob):∀x∈(ob.bQ c m).cs,x.s≤(ob.bQ c m).ctr:=by
 intro x' hx'
 obtain ⟨j,hj⟩:=List.getElem?_of_mem hx'
 obtain ⟨x,hx0,rfl⟩:=JA hj
 have:=iq.ctr x (List.mem_of_getElem? hx0)
 split<;>exact this
theorem MH {o c:Nat} {ob:Obj} {x:Cell} (iq:Jq w W o ob) (hx:ob.cs[c]?=some x) (h1:x.m≠ .imm) (h2:x.m≠ .gone):ob.fz=false:=by
 cases hf:ob.fz
 ·rfl
 ·rcases iq.fz hf x (List.mem_of_getElem? hx) with h | h
  ·exact absurd h h1
  ·exact absurd h h2
theorem IJ (h:Rel B st a w W) {o s c:Nat} {ob:Obj} {x0:Cell} (hc:st.cell o s c=some (ob,x0)) (h1:x0.m≠ .imm) (h2:x0.m≠ .gone) (S:Nat→Prop) (hS:∀b,S b→W.own b=some (.cell o c)) (k:Nat) {m:OM} (hm:qG x0.m m True)
 (hnew:∀v,(W.vals o)[c]?=some v→GH w (W.xC S (some (.det k))) o c {x0 with m} v):
 ∃W',Rel B (st.setObj o (ob.bQ c m)) a w W'∧Ext st.L W (st.setObj o (ob.bQ c m)).L W'∧(∀t b,W.F t b→W'.F t b)∧
  Loose W W'∧W'.F=W.F∧W'.vals=W.vals∧W'.fp=W.fp∧∀b,S b→W'.own b=some (.det k):=by
 obtain ⟨hL,hx,-⟩:=eF hc
 simp only at hL hx
 have iq:=h.iJ o ob hL
 have hfz:=MH iq hx h1 h2
 have hE:Ext st.L W (st.setObj o (ob.bQ c m)).L (W.xC S (some (.det k))):=Ext.bQ hL (fun _=>rfl) (fun _=>rfl) (fun _=>rfl) (fun x hx'=>by rw [hx] at hx';cases hx';exact hm) fun x hx'=> .inr (by rw [hx] at hx';cases hx';exact h2)
 have hne:∀b x,W.own b=some x→x≠ .cell o c→(W.xC S (some (.det k))).own b=some x:=by
  intro b x hb hx'
  rw [kS]
  ·exact hb
  ·intro e
   have:=hS b e
   rw [hb] at this
   exact hx' (Option.some.inj this)
 have hlo:Loose W (W.xC S (some (.det k))):=fun b y hy hb=>hne b y hb (by rintro rfl;cases hy)
 refine ⟨W.xC S (some (.det k)),?_,hE,fun _ _ hb=>hb,hlo,rfl,rfl,rfl,fun b hb=>MG W hb⟩
 ·refine h.step (hio:=⟨rfl,rfl⟩) (W':=W.xC S (some (.det k))) (fun _ _ hb=>hb) h.f01 h.f12 (fun _ _ hb=> .inl hb) ?_ h.flt ?_ (fun _ _=>rfl) hE (Par.set hL rfl rfl (fun _=>rfl) fun _ _=>rfl) ?_ (fun _ _ _=>rfl) (Nat.le_refl _) (TrK.loose hlo) (fun b hb=> .inl hb) (fun b x hb=> .inl ⟨by
   by_cases e:S b
   ·exact ⟨_,hS b e⟩
   ·rw [kS W e] at hb;exact ⟨_,hb⟩,.inl rfl⟩)
  ·intro b hb
   rw [kS]
   ·exact h.qF b hb
   ·intro e
    have h1:=hS b e
    rw [h.qF b hb] at h1
    cases h1
  ·intro b x hb
   by_cases e:S b
   ·exact h.olt b _ (hS b e)
   ·rw [kS W e] at hb;exact h.olt b x hb
  ·intro o' ob' hL'
   by_cases e:o'=o
   ·subst e
    simp only [St.setObj,upd_same] at hL'
    cases hL'
    refine {len:=by show (W.vals o').length=_;simpa [Obj.bQ] using iq.len,cells:=?_,mem:=?_,fz:=(fun hf=>by rw [show ob.fz=true from hf] at hfz;cases hfz),ctr:=Om iq}
    ·exact KI iq (fun _ _ hb=>hb) (fun _=>rfl) (fun _=>rfl) (fun _=>rfl) hne fun x v hx' hv'=>by
      rw [hx] at hx';cases hx'
      exact hnew v hv'
    ·intro hm
     obtain ⟨arr,T,fr,h1,h2,h3,h4,h5⟩:=iq.mem hm
     exact ⟨arr,T,fr,h1,h2,h3,fun hf=>hne _ _ (h4 hf) (by intro e;cases e),h5⟩
   ·simp only [St.setObj,upd_ne _ _ e] at hL'
    refine (h.iJ o' ob' hL').keep (fun _ _ hb=>⟨hb,rfl⟩) rfl rfl (fun _=>rfl) (fun _=>rfl) (fun c' b hb=>⟨hne b _ hb (by intro e';injection e' with e1 _;exact e e1),rfl⟩) (fun hm=>⟨rfl,fun hf=>?_⟩) (TrK.loose hlo)
    obtain ⟨arr,T,fr,h1,h2,h3,h4,h5⟩:=(h.iJ o' ob' hL').mem hm
    exact hne _ _ (h4 hf) (by intro e;cases e)
theorem xH (h:Rel B st a w W) {o s c:Nat} {ob:Obj} {m:OM} {t:Nat} {y:AV} (hc:st.cell o s c=some (ob,⟨m,s,t,y⟩)) (hm:m= .sh∨∃n,m= .dp n) {v:Value} (hv0:(W.vals o)[c]?=some v):
 ∃W',Rel B (st.setObj o (ob.bQ c .imm)) a w W'∧Ext st.L W (st.setObj o (ob.bQ c .imm)).L W'∧(∀t b,W.F t b→W'.F t b)∧
  Loose W W'∧CRi w (W'.F (tg t)) [y] [v]∧(∃sz es,y= .row sz es)∧∀t b,W'.F t b→W.F t b∨W.own b=some (.cell o c):=by
 obtain ⟨v',hv,hok,iq⟩:=h.cellAt hc
 rw [hv0] at hv;cases hv
 obtain ⟨hL,hx,-⟩:=eF hc
 simp only at hL hx
 have hfz:ob.fz=false:=MH iq hx (by rcases hm with rfl | ⟨n,rfl⟩<;>intro e<;>cases e) (by rcases hm with rfl | ⟨n,rfl⟩<;>intro e<;>cases e)
 let S:Nat→Prop:=fun b=>W.own b=some (.cell o c)
 let W':Wit:=W.still S
 have hF:∀t b,W.F t b→W'.F t b:=fun _ _ hb=> .inl hb
 have hne:∀b x,W.own b=some x→x≠ .cell o c→W'.own b=some x:=by
  intro b x hb hx'
  rw [show W'.own b=W.own b from xE W (fun e=>hx' (Option.some.inj (hb.symm.trans e)))]
  exact hb
 obtain ⟨sz,es,rfl⟩:∃sz es,y= .row sz es:=by
  rcases hm with rfl | ⟨n,rfl⟩<;>cases y<;>first | exact ⟨_,_,rfl⟩ | exact hok.elim
 have ald:CRi w (W'.F (tg t)) [.row sz es] [v]:=by
  rcases hm with rfl | ⟨n,rfl⟩
  ·exact kJ.freeze (ob:=W.fp o c) (hok.1.mono (fun b hb=>⟨hF _ b hb,rfl⟩) fun _ _=>rfl) fun b hb=> .inr (hok.2 b hb)
  ·obtain ⟨bs,d1,d2,d3⟩:=hok
   exact Deep.freeze (d1.mono (fun b hb=>⟨hF _ b hb,rfl⟩) fun _ _=>rfl) fun b hb=> .inr (d3 b hb)
 have hE:Ext st.L W (st.setObj o (ob.bQ c .imm)).L W':=Ext.bQ hL (fun _=>rfl) (fun _=>rfl) (fun _=>rfl) (fun _ _=>qG.none rfl) fun x hx'=> .inr (by rw [hx] at hx';cases hx';rcases hm with rfl | ⟨n,rfl⟩<;>intro e<;>cases e)
 have hlo:Loose W W':=fun b y hy hb=>hne b y hb (by rintro rfl;cases hy)
 refine ⟨W',?_,hE,hF,hlo,ald,⟨sz,es,rfl⟩,fun t b hb=>hb⟩
 ·refine h.step (hio:=⟨rfl,rfl⟩) (W':=W') hF (fun b hb=>hb.imp (h.f01 b) id) (fun b hb=>hb.imp (h.f12 b) id) ?_ ?_ ?_ ?_ (fun _ _=>rfl) hE (Par.set hL rfl rfl (fun _=>rfl) fun _ _=>rfl) ?_ (fun _ _ _=>rfl) (Nat.le_refl _) (TrK.loose hlo) (fun b hb=>hb.imp id fun hs=>h.ouf b _ hs) (fun b x hb=> .inl ⟨by
   by_cases hn:S b
   ·exact ⟨_,hn⟩
   ·rw [show W'.own b=W.own b from xE W hn] at hb;exact ⟨_,hb⟩,.inl rfl⟩)
  ·rintro t b (hb | hb)
   ·exact .inl hb
   ·exact .inr (h.olt b _ hb).2
  ·intro b hb
   by_cases hn:S b
   ·exact II W hn
   ·rw [show W'.own b=W.own b from xE W hn]
    rcases hb with hb | hb
    ·exact h.qF b hb
    ·exact absurd hb hn
  ·rintro b (hb | hb)
   ·exact h.flt b hb
   ·exact (h.olt b _ hb).1
  ·intro b x hb
   by_cases hn:S b
   ·rw [show W'.own b=none from II W hn] at hb;cases hb
   ·rw [show W'.own b=W.own b from xE W hn] at hb;exact h.olt b x hb
  ·intro o' ob' hL'
   by_cases e:o'=o
   ·subst e
    simp only [St.setObj,upd_same] at hL'
    cases hL'
    refine {len:=by show (W.vals o').length=_;simpa [Obj.bQ] using iq.len,cells:=?_,mem:=?_,fz:=(fun hf=>by rw [show ob.fz=true from hf] at hfz;cases hfz),ctr:=Om iq}
    ·exact KI iq hF (fun _=>rfl) (fun _=>rfl) (fun _=>rfl) hne fun x v' hx' hv'=>by
      rw [hx] at hx';cases hx'
      rw [hv0] at hv';cases hv'
      exact ald
    ·intro hm
     obtain ⟨arr,T,fr,h1,h2,h3,h4,h5⟩:=iq.mem hm
     exact ⟨arr,T,fr,h1,h2,h3,fun hf=>hne _ _ (h4 hf) (by intro e;cases e),fun hf=>hF _ _ (h5 hf)⟩
   ·simp only [St.setObj,upd_ne _ _ e] at hL'
    refine (h.iJ o' ob' hL').keep (fun _ b hb=>⟨hF _ b hb,rfl⟩) rfl rfl (fun _=>rfl) (fun _=>rfl) (fun c' b hb=>⟨hne b _ hb (by intro e';injection e' with e1 _;exact e e1),rfl⟩) (fun hm=>⟨rfl,fun hf=>?_⟩) (TrK.loose hlo)
    obtain ⟨arr,T,fr,h1,h2,h3,h4,h5⟩:=(h.iJ o' ob' hL').mem hm
    exact hne _ _ (h4 hf) (by intro e;cases e)
theorem Yj (h:Rel B st a w W) {o s:Nat} {ob:Obj} (ho:st.obj o s=some ob) (hm:ob.mem=true) (hlive:∀x∈ob.cs,x.m.live=true):
 ∃W',Rel B (st.setObj o {ob with fz:=true,cs:=ob.cs.map fun x=>{x with m:=x.m.freeze}}) a w W'∧
  Ext st.L W (st.setObj o {ob with fz:=true,cs:=ob.cs.map fun x=>{x with m:=x.m.freeze}}).L W'∧(∀t b,W.F t b→W'.F t b)∧
  Loose W W'∧W'.F 0 (W.blk o)∧W'.blk o=W.blk o∧W'.vals=W.vals∧
  (∀(c:Nat) x v,ob.cs[c]?=some x→(W.vals o)[c]?=some v→x.m≠ .gone→CRi w (W'.F (tg (dm x.t x.a))) [x.a] [v])∧
  ∀t b,W'.F t b→W.F t b∨(ob.fz=false∧(W.own b=some (.root o)∨∃c,W.own b=some (.cell o c))):=by
 obtain ⟨hL,-⟩:=xW ho
 have iq:=h.iJ o ob hL
 obtain ⟨arr,T,fr,h1,h2,h3,h4,h5⟩:=iq.mem hm
 let S:Nat→Prop:=fun b=>ob.fz=false∧(W.own b=some (.root o)∨∃c,W.own b=some (.cell o c))
 have hS:∀b,S b→W.own b=some (.root o)∨∃c,W.own b=some (.cell o c):=fun b hb=>hb.2
 let W':Wit:=W.still S
 have hF:∀t b,W.F t b→W'.F t b:=fun _ _ hb=> .inl hb
 have hne:∀b x,W.own b=some x→x≠ .root o→(∀c,x≠ .cell o c)→W'.own b=some x:=by
  intro b x hb h0 h1
  rw [show W'.own b=W.own b from xE W ?_]
  ·exact hb
  ·intro e
   rcases hS b e with h2 | ⟨c,h2⟩<;>rw [hb] at h2<;>cases h2
   ·exact h0 rfl
   ·exact h1 c rfl
 have hcell:∀(c:Nat) x v,ob.cs[c]?=some x→(W.vals o)[c]?=some v→x.m≠ .gone→CRi w (W'.F (tg (dm x.t x.a))) [x.a] [v]:=by
  intro c x v hx hv hg
  have:=iq.cells c x v hx hv
  have hfz:=iq.fz
  obtain ⟨m,s',t',z⟩:=x
  cases m with
  | imm=>exact CRi.mono (fun b hb=>⟨hF _ b hb,rfl⟩) this
  | gone=>exact absurd rfl hg
  | sh=>
   have hf:ob.fz=false:=MH iq hx (by intro e;cases e) (by intro e;cases e)
   cases z with
   | row sz es=>exact kJ.freeze (ob:=W.fp o c) (this.1.mono (fun b hb=>⟨hF _ b hb,rfl⟩) fun _ _=>rfl) fun b hb=> .inr ⟨hf,.inr ⟨c,this.2 b hb⟩⟩
   | _=>exact this.elim
  | dp n=>
   have hf:ob.fz=false:=MH iq hx (by intro e;cases e) (by intro e;cases e)
   cases z with
   | row sz es=>
    obtain ⟨bs,d1,d2,d3⟩:=this
    exact Deep.freeze (d1.mono (fun b hb=>⟨hF _ b hb,rfl⟩) fun _ _=>rfl) fun b hb=> .inr ⟨hf,.inr ⟨c,d3 b hb⟩⟩
   | _=>exact this.elim
  | dd n i j=>exact absurd (hlive _ (List.mem_of_getElem? hx)) (by intro e;cases e)
  | ws=>exact absurd (hlive _ (List.mem_of_getElem? hx)) (by intro e;cases e)
  | fr=>exact absurd (hlive _ (List.mem_of_getElem? hx)) (by intro e;cases e)
 have hroot:W'.F 0 (W.blk o):=by
  cases hf:ob.fz
  ·exact .inr ⟨hf,.inl (h4 hf)⟩
  ·exact .inl (h5 hf)
 have hE:Ext st.L W (st.setObj o {ob with fz:=true,cs:=ob.cs.map fun x=>{x with m:=x.m.freeze}}).L W':=by
  intro o' ob' hL'
  by_cases e:o'=o
  ·subst e
   rw [hL] at hL';cases hL'
   refine ⟨{ob with fz:=true,cs:=ob.cs.map fun x=>{x with m:=x.m.freeze}},by simp only [St.setObj,upd_same],Nat.le_refl _,Nat.le_refl _,fun j x' hx'=> .inr ?_,fun _=>⟨rfl,rfl⟩⟩
   simp only [List.getElem?_map] at hx'
   cases hx:ob.cs[j]? with
   | none=>simp [hx] at hx'
   | some x=>
    simp [hx] at hx'
    subst hx'
    refine ⟨x,rfl,rfl,rfl,fun hm=>⟨?_,fun sz es he=>⟨es,he,rfl⟩⟩,?_⟩
    ·intro e;apply hm;simp [e,OM.freeze]
    ·have:=hlive x (List.mem_of_getElem? hx)
     obtain ⟨m,s',t',z⟩:=x
     cases m<;>first | exact qG.none rfl | cases this
  ·exact ⟨ob',by simp only [St.setObj,upd_ne _ _ e];exact hL',Nat.le_refl _,Nat.le_refl _,fun j x hx=> .inr ⟨x,hx,rfl,rfl,fun hm=>⟨hm,fun _ es he=>⟨es,he,rfl⟩⟩,qG.same rfl⟩,fun _=>⟨rfl,rfl⟩⟩
 have hlo:Loose W W':=fun b y hy hb=>hne b y hb (by rintro rfl;cases hy) (by rintro c rfl;cases hy)
 refine ⟨W',?_,hE,hF,hlo,hroot,rfl,rfl,hcell,fun t b hb=>hb.imp id fun e=>⟨e.1,hS b e⟩⟩
 refine h.step (hio:=⟨rfl,rfl⟩) (W':=W') hF (fun b hb=>hb.imp (h.f01 b) id) (fun b hb=>hb.imp (h.f12 b) id) ?_ ?_ ?_ ?_ (fun _ _=>rfl) hE (Par.set hL rfl rfl (fun _=>rfl) fun _ _=>rfl) ?_ (fun _ _ _=>rfl) (Nat.le_refl _) (TrK.loose hlo) (fun b hb=>hb.imp id fun hs=>by rcases hS b hs with h2 | ⟨c,h2⟩<;>exact h.ouf b _ h2) (fun b x hb=> .inl ⟨by
  by_cases hn:S b
  ·rcases hS b hn with h2 | ⟨c,h2⟩<;>exact ⟨_,h2⟩
  ·rw [show W'.own b=W.own b from xE W hn] at hb;exact ⟨_,hb⟩,.inl rfl⟩)
 ·rintro t b (hb | hb)
  ·exact .inl hb
  ·rcases hS b hb with h2 | ⟨c,h2⟩<;>exact .inr (h.olt b _ h2).2
 ·intro b hb
  by_cases hn:S b
  ·exact II W hn
  ·rw [show W'.own b=W.own b from xE W hn]
   rcases hb with hb | hb
   ·exact h.qF b hb
   ·exact absurd hb hn
 ·rintro b (hb | hb)
  ·exact h.flt b hb
  ·rcases hS b hb with h2 | ⟨c,h2⟩<;>exact (h.olt b _ h2).1
 ·intro b x hb
  by_cases hn:S b
  ·rw [show W'.own b=none from II W hn] at hb;cases hb
  ·rw [show W'.own b=W.own b from xE W hn] at hb;exact h.olt b x hb
 ·intro o' ob' hL'
  by_cases e:o'=o
  ·subst e
   simp only [St.setObj,upd_same] at hL'
   cases hL'
   refine {len:=by show (W.vals o').length=_;simpa using iq.len,cells:=?_,mem:=?_,fz:=?_,ctr:=?_}
   ·intro j x' u hx' hu
    simp only [List.getElem?_map] at hx'
    cases hx:ob.cs[j]? with
    | none=>simp [hx] at hx'
    | some x=>
     simp [hx] at hx'
     subst hx'
     have:=hcell j x u hx hu
     obtain ⟨m,s',t',z⟩:=x
     cases m with
     | imm=>exact this (by intro e;cases e)
     | sh=>exact this (by intro e;cases e)
     | dp n=>exact this (by intro e;cases e)
     | gone=>trivial
     | dd n i j=>exact absurd (hlive _ (List.mem_of_getElem? hx)) (by intro e;cases e)
     | ws=>exact absurd (hlive _ (List.mem_of_getElem? hx)) (by intro e;cases e)
     | fr=>exact absurd (hlive _ (List.mem_of_getElem? hx)) (by intro e;cases e)
   ·intro _
    exact ⟨arr,T,fr,h1,h2,h3,fun hf=>Bool.noConfusion hf,fun _=>hroot⟩
   ·intro _ x' hx'
    simp only [List.mem_map] at hx'
    obtain ⟨x,hx,rfl⟩:=hx'
    have:=hlive x hx
    obtain ⟨m,s',t',z⟩:=x
    cases m<;>first | exact .inl rfl | cases this
   ·intro x' hx'
    simp only [List.mem_map] at hx'
    obtain ⟨x,hx,rfl⟩:=hx'
    exact iq.ctr x hx
  ·simp only [St.setObj,upd_ne _ _ e] at hL'
   refine (h.iJ o' ob' hL').keep (fun _ b hb=>⟨hF _ b hb,rfl⟩) rfl rfl (fun _=>rfl) (fun _=>rfl)
    (fun c' b hb=>⟨hne b _ hb (by intro e';cases e') (by intro c e';injection e' with e1 _;exact e e1),rfl⟩) (fun hm=>⟨rfl,fun hf=>?_⟩) (TrK.loose hlo)
   obtain ⟨arr,T,fr,h1,h2,h3,h4,h5⟩:=(h.iJ o' ob' hL').mem hm
   exact hne _ _ (h4 hf) (by intro e';injection e' with e1;exact e e1) (by intro c e';cases e')
theorem CRi.part {Fp:Nat→Prop} {sz:Nat} {es:List AV} {a0:Option Addr} {n cap lo hi:Nat} {v:Value} (h:CRi w Fp [.row sz es] [.slice a0 n cap]) (hlh:lo≤hi) (hh:hi≤es.length)
 (hv:(cap=0∧v= .slice a0 0 0)∨∃b off,a0=some ⟨b,off,none⟩∧hi≤cap∧v= .slice (some ⟨b,if cap=lo then off else off+lo*sz,none⟩) (hi - lo) (cap - lo)):
 CRi w Fp [.row sz ((es.take hi).drop lo)] [v]:=by
 cases h with
 | gy _=>
  rcases hv with ⟨_,rfl⟩ | ⟨b,off,h1,_⟩
  ·simpa using CRi.gy .nil
  ·obtain ⟨hc0,rfl⟩:=(by assumption:hi≤0∧_)
   obtain rfl:hi=0:=by omega
   obtain rfl:lo=0:=by omega
   simpa using CRi.gy .nil
 | @row _ _ _ _ b off _ arr T fr us rest hb hh' hs hd hlc hc _=>
  rcases hv with ⟨h1,rfl⟩ | ⟨b',off',h1,hcap,rfl⟩
  ·obtain rfl:es=[]:=List.length_eq_zero_iff.1 (by have:=hlc.1;omega)
   subst h1
   simpa using CRi.gy .nil
  ·cases h1
   have hlen:((es.take hi).drop lo).length=hi - lo:=by simp;omega
   rw [←hlen]
   by_cases e:cap=lo
   ·have e1:(es.take hi).drop lo=[]:=List.drop_eq_nil_of_le (by simp;omega)
    rw [e1,if_pos e]
    exact .row hb hh' (by simp) (us:=[]) (rest:=us++rest) (by simpa using hd) ⟨by simp,hlc.2.imp (fun q=>by rw [e,Nat.sub_self,Nat.zero_mul];omega) id⟩ (by simpa using CRi.nil) .nil
   ·rw [if_neg e]
    have hs':∀e∈(es.take hi).drop lo,e.cells.length=sz:=fun e he=>hs e (List.mem_of_mem_take (List.mem_of_mem_drop he))
    have hul:=hc.length
    rw [flat_length hs] at hul
    refine .row (us:=(us.take (hi*sz)).drop (lo*sz)) (rest:=us.drop (hi*sz)++rest) hb hh' hs' ?_ ⟨by rw [hlen];omega,hlc.2.imp (fun q=>by have:lo*sz+(cap - lo) *sz=cap*sz:=(by rw [←Nat.add_mul];congr 1;omega);omega) id⟩ ?_ .nil
    ·rw [←List.drop_drop,hd,List.drop_append,←List.append_assoc]
     have h1:lo*sz≤hi*sz:=Nat.mul_le_mul_right _ hlh
     have h2:hi*sz≤es.length*sz:=Nat.mul_le_mul_right _ hh
     have e2:lo*sz - us.length=0:=by omega
     rw [e2,List.drop_zero]
     congr 1
     rw [List.drop_take]
     conv=>lhs;rw [←List.take_append_drop (hi*sz - lo*sz) (us.drop (lo*sz))]
     rw [List.drop_drop]
     congr 2
     omega
    ·have:=(hc.take (hi*sz)).drop (lo*sz)
     rw [IG hs,uY (fun e he=>hs e (List.mem_of_mem_take he))] at this
     exact this
omit [Lim] in
theorem ade {sz n b off cap lo hi:Nat} {v:Value} (hh:hi≤n) (hlh:lo≤hi) (hn:n≤cap)
 (hv:(cap=0∧v= .slice (some ⟨b,off,none⟩) 0 0)∨∃b' off',(some (⟨b,off,none⟩:Addr))=some ⟨b',off',none⟩∧hi≤cap∧v= .slice (some ⟨b',if cap=lo then off' else off'+lo*sz,none⟩) (hi - lo) (cap - lo)):
 ∃b' off',(some (⟨b,off,none⟩:Addr))=some ⟨b',off',none⟩∧hi≤cap∧v= .slice (some ⟨b',if cap=lo then off' else off'+lo*sz,none⟩) (hi - lo) (cap - lo):=by
 rcases hv with ⟨h1,rfl⟩ | h
 ·refine ⟨b,off,rfl,by omega,?_⟩
  obtain rfl:cap=0:=h1
  obtain rfl:hi=0:=by omega
  obtain rfl:lo=0:=by omega
  simp
 ·exact h
theorem kJ.part {Fp:Nat→Prop} {sz:Nat} {es:List AV} {a0:Option Addr} {n cap lo hi:Nat} {v:Value} {ob:Option Nat} (h:kJ w Fp sz es (.slice a0 n cap) ob) (hlh:lo≤hi) (hh:hi≤es.length)
 (hv:(cap=0∧v= .slice a0 0 0)∨∃b off,a0=some ⟨b,off,none⟩∧hi≤cap∧v= .slice (some ⟨b,if cap=lo then off else off+lo*sz,none⟩) (hi - lo) (cap - lo)):
 kJ w Fp sz ((es.take hi).drop lo) v ob:=by
 rcases h with ⟨rfl,h1,rfl⟩ | ⟨b,off,cap',arr,T,fr,us,rest,h1,rfl,hh',hf,hs,hd,hc,hl,hr⟩
 ·rcases hv with ⟨_,rfl⟩ | ⟨b,off,h2,_⟩
  ·exact .inl ⟨by simp,⟨a0,rfl⟩,rfl⟩
  ·obtain ⟨x,h1⟩:=h1
   injection h1 with h1 h3 h4
   obtain ⟨h5,rfl⟩:=(by assumption:hi≤cap∧_)
   obtain rfl:hi=0:=by omega
   obtain rfl:lo=0:=by omega
   subst h4
   exact .inl ⟨by simp,⟨some ⟨b,off,none⟩,by simp⟩,rfl⟩
 ·injection h1 with h1 h1' adf
  subst h1 h1' adf
  replace hv:=ade hh hlh hl hv
  rcases hv with ⟨b',off',h2,hcap,rfl⟩
  ·cases h2
   have hlen:((es.take hi).drop lo).length=hi - lo:=by simp;omega
   have hs':∀e∈(es.take hi).drop lo,e.cells.length=sz:=fun e he=>hs e (List.mem_of_mem_take (List.mem_of_mem_drop he))
   by_cases e:cap=lo
   ·have e1:(es.take hi).drop lo=[]:=List.drop_eq_nil_of_le (by simp;omega)
    refine .inr ⟨b,off,cap - lo,arr,T,fr,[],us++rest,by rw [if_pos e,hlen],rfl,hh',hf,hs',by simpa using hd,by rw [e1];exact CRi.nil,by rw [e1];simp,?_⟩
    have:(cap - lo) *sz≤cap*sz:=Nat.mul_le_mul_right _ (by omega)
    omega
   ·have hul:=hc.length
    rw [flat_length hs] at hul
    have h3:lo*sz≤hi*sz:=Nat.mul_le_mul_right _ hlh
    have h4:hi*sz≤es.length*sz:=Nat.mul_le_mul_right _ hh
    refine .inr ⟨b,off+lo*sz,cap - lo,arr,T,fr,(us.take (hi*sz)).drop (lo*sz),us.drop (hi*sz)++rest,by rw [if_neg e,hlen],rfl,hh',hf,hs',?_,?_,by rw [hlen];omega,?_⟩
    ·rw [←List.drop_drop,hd,List.drop_append,←List.append_assoc]
     have e2:lo*sz - us.length=0:=by omega
     rw [e2,List.drop_zero]
     congr 1
     rw [List.drop_take]
     conv=>lhs;rw [←List.take_append_drop (hi*sz - lo*sz) (us.drop (lo*sz))]
     rw [List.drop_drop]
     congr 2
     omega
    ·have:=(hc.take (hi*sz)).drop (lo*sz)
     rw [IG hs,uY (fun e he=>hs e (List.mem_of_mem_take he))] at this
     exact this
    ·have:lo*sz+(cap - lo) *sz=cap*sz:=by rw [←Nat.add_mul];congr 1;omega
     omega
theorem CRi.PK {Fp:Nat→Prop}:∀{as:List AV} {vs:List Value},as.length=vs.length→(∀(c:Nat) x v,as[c]?=some x→vs[c]?=some v→CRi w Fp [x] [v])→CRi w Fp as vs
 | [],[],_,_=> .nil
 | [],_::_,h,_=>by simp at h
 | _::_,[],h,_=>by simp at h
 | x::as,v::vs,h,hc=>CRi.cons (hc 0 x v rfl rfl) (CRi.PK (by simpa using h) fun c y u hy hu=>hc (c+1) y u (by simpa using hy) (by simpa using hu))
omit [Lim] in
theorem TN:∀{cs:List Cell} {x:Cell},x∈cs→dm x.t x.a≤Mc cs
 | y::r,x,h=>by
  simp only [Mc]
  rcases List.mem_cons.1 h with rfl | h
  ·exact Nat.le_max_left _ _
  ·exact Nat.le_trans (TN h) (Nat.le_max_right _ _)
def Refs (W:Wit) (r:RV) (b:Nat):Prop:=
 match r with
 | .own o _ _ | .sub o _ _ _ _ | .mp o _ _ | .mpe o _ _ _ _=>W.own b=some (.root o)∨∃c,W.own b=some (.cell o c)
 | _=>False
theorem TP (h:Rel B st a w W) {sz:Nat} {r:RV} {v:Value} {t0:Nat} {y0:AV} {bo:Bool} (hr:RR w W st.L r v) (hv:st.view sz r=some (bo,t0,y0)):
 ∃W',Rel B (st.freeze r) a w W'∧(st.freeze r).sl=st.sl∧Ext st.L W (st.freeze r).L W'∧(∀t b,W.F t b→W'.F t b)∧Loose W W'∧CRi w (W'.F (tg t0)) [y0] [v]∧
  ∀t b,W'.F t b→W.F t b∨(bo=true∧Refs W r b):=by
 have self:∀(z:AV),CRi w (W.F (tg t0)) [z] [v]→∃W',Rel B st a w W'∧st.sl=st.sl∧Ext st.L W st.L W'∧(∀t b,W.F t b→W'.F t b)∧Loose W W'∧CRi w (W'.F (tg t0)) [z] [v]∧
  ∀t b,W'.F t b→W.F t b∨(bo=true∧Refs W r b):=
  fun z hz=>⟨W,h,rfl,Ext.refl _ _,fun _ _ hb=>hb,Loose.refl W,hz,fun _ _ hb=> .inl hb⟩
 cases r with
 | fr a=>simp [St.view] at hv
 | ws a=>simp [St.view] at hv
 | im t a=>
  simp only [St.view,Option.some.injEq,Prod.mk.injEq] at hv
  obtain ⟨-,rfl,rfl⟩:=hv
  exact self _ hr
 | nil=>
  simp only [St.view,Option.some.injEq,Prod.mk.injEq] at hv
  obtain ⟨-,rfl,rfl⟩:=hv
  obtain rfl:v=_:=hr
  exact self _ (.gy .nil)
 | qC=>simp [St.view] at hv
 | inr o s c i j n=>simp [St.view] at hv
 | own o s c=>
  simp only [St.view] at hv
  cases hc:st.cell o s c with
  | none=>simp [hc] at hv
  | some p=>
   obtain ⟨ob,m,s',t',z⟩:=p
   obtain ⟨hL,hx,hs⟩:=eF hc
   simp only at hs;subst hs
   obtain ⟨u,hu,hok,iq⟩:=h.cellAt hc
   obtain ⟨ob2,hL2,_,hval⟩:=hr
   simp only at hL;rw [hL] at hL2;cases hL2
   have:=hval _ hx rfl
   rw [hu] at this;cases this
   cases m with
   | gone=>simp [hc] at hv
   | imm=>
    simp [hc] at hv
    obtain ⟨-,rfl,rfl⟩:=hv
    rw [show st.freeze (RV.own o s' c)=st from by simp only [St.freeze,hc]]
    exact self _ hok
   | sh=>
    simp [hc] at hv
    obtain ⟨hbo,rfl,rfl⟩:=hv
    simp only [St.freeze,hc]
    obtain ⟨W',h1,h2,h3,h4,h5,_,h6⟩:=xH h hc (.inl rfl) hu
    exact ⟨W',h1,rfl,h2,h3,h4,h5,fun t b hb=>(h6 t b hb).imp id fun e=>⟨(by first | exact hbo | exact hbo.symm),.inr ⟨c,e⟩⟩⟩
   | dp n=>
    simp [hc] at hv
    obtain ⟨hbo,rfl,rfl⟩:=hv
    simp only [St.freeze,hc]
    obtain ⟨W',h1,h2,h3,h4,h5,_,h6⟩:=xH h hc (.inr ⟨n,rfl⟩) hu
    exact ⟨W',h1,rfl,h2,h3,h4,h5,fun t b hb=>(h6 t b hb).imp id fun e=>⟨(by first | exact hbo | exact hbo.symm),.inr ⟨c,e⟩⟩⟩
   | dd n i j=>simp [hc] at hv
   | ws=>simp [hc] at hv
   | fr=>simp [hc] at hv
 | sub o s c lo hi=>
  simp only [St.view] at hv
  cases hc:st.cell o s c with
  | none=>simp [hc] at hv
  | some p=>
   obtain ⟨ob,m,s',t',z⟩:=p
   obtain ⟨hL,hx,hs⟩:=eF hc
   simp only at hs;subst hs
   obtain ⟨u,hu,hok,iq⟩:=h.cellAt hc
   obtain ⟨ob2,hL2,_,hval⟩:=hr
   simp only at hL;rw [hL] at hL2;cases hL2
   cases m with
   | gone=>simp [hc] at hv
   | imm=>
    cases z with
    | row z es=>
     simp [hc] at hv
     obtain ⟨-,rfl,rfl⟩:=hv
     obtain ⟨h1,h2,a0,cap,h3,h4⟩:=hval _ hx rfl (by intro e;cases e) _ _ rfl
     rw [hu] at h3;cases h3
     rw [show st.freeze (RV.sub o s' c lo hi)=st from by simp only [St.freeze,hc]]
     exact self _ (CRi.part hok h1 h2 h4)
    | _=>simp [hc] at hv
   | sh=>
    cases z with
    | row z es=>
     simp [hc] at hv
     obtain ⟨hbo,rfl,rfl⟩:=hv
     obtain ⟨h1,h2,a0,cap,h3,h4⟩:=hval _ hx rfl (by intro e;cases e) _ _ rfl
     rw [hu] at h3;cases h3
     simp only [St.freeze,hc]
     obtain ⟨W',k1,k2,k3,k4,k5,_,k6⟩:=xH h hc (.inl rfl) hu
     exact ⟨W',k1,rfl,k2,k3,k4,CRi.part k5 h1 h2 h4,fun t b hb=>(k6 t b hb).imp id fun e=>⟨(by first | exact hbo | exact hbo.symm),.inr ⟨c,e⟩⟩⟩
    | _=>simp [hc] at hv
   | dp n=>simp [hc] at hv
   | dd n i j=>simp [hc] at hv
   | ws=>simp [hc] at hv
   | fr=>simp [hc] at hv
 | mpe o s c i off=>
  simp only [St.view] at hv
  cases hc:st.cell o s c with
  | none=>simp [hc] at hv
  | some p=>
   obtain ⟨ob,m,s',t',z⟩:=p
   obtain ⟨hL,hx,hs⟩:=eF hc
   simp only at hs;subst hs
   obtain ⟨u,hu,hok,iq⟩:=h.cellAt hc
   obtain ⟨ob2,hL2,_,hval⟩:=hr
   simp only at hL;rw [hL] at hL2;cases hL2
   have elem:∀{Fp:Nat→Prop} {zz:Nat} {es:List AV} {ee:AV} {b ik cap:Nat},CRi w Fp [.row zz es] [.slice (some ⟨b,ik,none⟩) es.length cap]→es[i]?=some ee→
    CRi w Fp [.cp ee.cells off] [.pointer (some ⟨b,ik+i*zz+off,none⟩)]:=by
    intro Fp zz es ee b ik cap hcr hee
    cases hcr with
    | gy _=>simp at hee
    | @row _ _ _ _ _ _ _ arr T fr us rest hb hh' hs hd hlc hc' _=>
     have hi:i<es.length:=by
      rcases Nat.lt_or_ge i es.length with h' | h'
      ·exact h'
      ·rw [List.getElem?_eq_none h'] at hee;cases hee
     have hul:=hc'.length
     rw [flat_length hs] at hul
     have e1:es.drop i=ee::es.drop (i+1):=by
      rw [List.drop_eq_getElem_cons hi]
      rw [List.getElem?_eq_getElem hi] at hee
      cases hee;rfl
     have hdc:=hc'.drop (i*zz)
     rw [uY hs,e1,List.flatMap_cons] at hdc
     obtain ⟨u1,u2,e2,k1,k2⟩:=hdc.tX
     refine .cp (us:=u1) (rest:=u2++rest) hb hh' ?_ k1 .nil
     have h4:i*zz≤es.length*zz:=Nat.mul_le_mul_right _ (by omega)
     rw [←List.drop_drop,hd,List.drop_append,e2]
     have e3:i*zz - us.length=0:=by omega
     rw [e3,List.drop_zero,List.append_assoc]
   cases m with
   | gone=>simp [hc] at hv
   | imm=>
    cases z with
    | row z es=>
     cases hee:es[i]? with
     | none=>simp [hc,hee] at hv
     | some ee=>
      simp [hc,hee] at hv
      obtain ⟨-,rfl,rfl⟩:=hv
      obtain ⟨h1,b,ik,cap,h3,rfl⟩:=hval _ hx rfl (by intro e;cases e) _ _ rfl
      rw [hu] at h3;cases h3
      rw [show st.freeze (RV.mpe o s' c i off)=st from by simp only [St.freeze,hc]]
      exact self _ (elem hok hee)
    | _=>simp [hc] at hv
   | sh=>
    cases z with
    | row z es=>
     cases hee:es[i]? with
     | none=>simp [hc,hee] at hv
     | some ee=>
      simp [hc,hee] at hv
      obtain ⟨hbo,rfl,rfl⟩:=hv
      obtain ⟨h1,b,ik,cap,h3,rfl⟩:=hval _ hx rfl (by intro e;cases e) _ _ rfl
      rw [hu] at h3;cases h3
      simp only [St.freeze,hc]
      obtain ⟨W',k1,k2,k3,k4,k5,_,k6⟩:=xH h hc (.inl rfl) hu
      exact ⟨W',k1,rfl,k2,k3,k4,elem k5 hee,fun t b hb=>(k6 t b hb).imp id fun e=>⟨(by first | exact hbo | exact hbo.symm),.inr ⟨c,e⟩⟩⟩
    | _=>simp [hc] at hv
   | dp n=>simp [hc] at hv
   | dd n i j=>simp [hc] at hv
   | ws=>simp [hc] at hv
   | fr=>simp [hc] at hv
 | mp o s off=>
  simp only [St.view] at hv
  cases ho:st.obj o s with
  | none=>simp [ho] at hv
  | some ob=>
   obtain ⟨hL,hg⟩:=xW ho
   simp only [ho,Option.bind_some] at hv
   split at hv
   ·rename_i hm
    simp only [Bool.and_eq_true,List.all_eq_true] at hm
    obtain ⟨hm,hall⟩:=hm
    simp only [Option.some.injEq,Prod.mk.injEq] at hv
    obtain ⟨hbo,rfl,rfl⟩:=hv
    obtain ⟨ob2,hL2,_,hval⟩:=hr
    rw [hL] at hL2;cases hL2
    obtain ⟨_,rfl⟩:=hval hg
    obtain ⟨W',k1,k2,k3,k4,k5,k6,k7,k8,k9⟩:=Yj h ho hm hall
    have iq:=h.iJ o ob hL
    obtain ⟨arr,T,fr,h1,h2,h3,_⟩:=iq.mem hm
    simp only [St.freeze,ho]
    refine ⟨W',k1,rfl,k2,k3,k4,?_,fun t b hb=>(k9 t b hb).imp id fun e=>⟨by rw [←hbo,e.1];rfl,e.2⟩⟩
    have hb0:W'.F (tg (Mc ob.cs)) (W.blk o):=k1.fle (t:=0) (Nat.zero_le _) (by simpa [tg] using k5)
    have:=CRi.cp (w:=w) (Fp:=W'.F (tg (Mc ob.cs))) (cs:=ob.cs.map (·.a)) (off:=off) (as:=[]) (vs:=[]) (ik:=0) (us:=W.vals o) (rest:=[]) hb0 h1 (by simpa using h2)
     (CRi.PK (by simpa using iq.len.symm) fun c x u hx hu=>by
       simp only [List.getElem?_map] at hx
       cases hx0:ob.cs[c]? with
       | none=>simp [hx0] at hx
       | some x0=>
        simp [hx0] at hx
        subst hx
        have hmem:=List.mem_of_getElem? hx0
        exact (k8 c x0 u hx0 hu (by intro e;have:=hall x0 hmem;rw [e] at this;cases this)).mono fun b hb=>⟨k1.fle (TN hmem) hb,rfl⟩) .nil
    simpa using this
   ·cases hv
theorem UL (h:Rel B st a w W) {sz:Nat} {r:RV} {v:Value} {t:Nat} {y:AV} {st':St} (hr:RR w W st.L r v) (e:st.fix sz r=some (t,y,st')):
 ∃W',Rel B st' a w W'∧st'.sl=st.sl∧Ext st.L W st'.L W'∧(∀t b,W.F t b→W'.F t b)∧Loose W W'∧CRi w (W'.F (tg t)) [y] [v]:=by
 unfold St.fix at e
 obtain ⟨⟨bo,t0,y0⟩,hv,e⟩:=Option.map_eq_some_iff.1 e
 cases e
 obtain ⟨W',k1,k2,k3,k4,k5,k6,_⟩:=TP h hr hv
 exact ⟨W',k1,k2,k3,k4,k5,k6⟩
theorem af8 (h:Rel B st a w W) {sz:Nat} {r:RV} {v:Value} {t:Nat} {y:AV} {bo:Bool} (hr:RR w W st.L r v) (hv:st.view sz r=some (bo,t,y)):
 CRi w (fun b=>W.F (tg t) b∨(bo=true∧Refs W r b)) [y] [v]:=by
 obtain ⟨W',k1,k2,k3,k4,k5,k6,k7⟩:=TP h hr hv
 exact k6.mono fun b hb=>⟨k7 _ _ hb,rfl⟩
omit [Lim] in
theorem flat_get {sz:Nat} {es:List AV} (hs:∀e∈es,e.cells.length=sz) {i j:Nat} {e a:AV} (hi:es[i]?=some e) (hj:e.cells[j]?=some a):(es.flatMap AV.cells)[i*sz+j]?=some a:=by
 have hil:i<es.length:=by
  rcases Nat.lt_or_ge i es.length with h' | h'
  ·exact h'
  ·rw [List.getElem?_eq_none h'] at hi;cases hi
 have hjl:j<e.cells.length:=by
  rcases Nat.lt_or_ge j e.cells.length with h' | h'
  ·exact h'
  ·rw [List.getElem?_eq_none h'] at hj;cases hj
 have e1:es.drop i=e::es.drop (i+1):=by
  rw [List.drop_eq_getElem_cons hil]
  rw [List.getElem?_eq_getElem hil] at hi
  cases hi;rfl
 rw [←List.getElem?_drop,uY hs,e1,List.flatMap_cons,List.getElem?_append_left hjl]
 exact hj
theorem zM (h:Rel B st a w W) {sz:Nat} {r:RV} {v:Value} {x:CV} {st':St} (hr:RR w W st.L r v) (e:st.take sz r=some (x,st')) (k:Nat):
 ∃W',Rel B st' a w W'∧st'.sl=st.sl∧Ext st.L W st'.L W'∧(∀t b,W.F t b→W'.F t b)∧Loose W W'∧mg w W' k x v:=by
 have self:∀(z:CV),mg w W k z v→∃W',Rel B st a w W'∧st.sl=st.sl∧Ext st.L W st.L W'∧(∀t b,W.F t b→W'.F t b)∧Loose W W'∧mg w W' k z v:=
  fun z hz=>⟨W,h,rfl,Ext.refl _ _,fun _ _ hb=>hb,Loose.refl W,hz⟩
 cases r with
 | ws a=>
  simp only [St.take,Option.some.injEq,Prod.mk.injEq] at e
  obtain ⟨rfl,rfl⟩:=e
  exact self _ hr
 | fr a=>
  simp only [St.take,Option.some.injEq,Prod.mk.injEq] at e
  obtain ⟨rfl,rfl⟩:=e
  exact self _ hr
 | im t a=>
  simp only [St.take,Option.some.injEq,Prod.mk.injEq] at e
  obtain ⟨rfl,rfl⟩:=e
  refine self _ ?_
  have:dm (dm t a) a=dm t a:=by cases a<;>rfl
  show CRi w (W.F (tg (dm (dm t a) a))) [a] [v]
  rw [this];exact hr
 | nil=>
  simp only [St.take,Option.some.injEq,Prod.mk.injEq] at e
  obtain ⟨rfl,rfl⟩:=e
  obtain rfl:v=_:=hr
  exact self _ ⟨sz,[],none,rfl,.inl ⟨rfl,⟨_,rfl⟩,rfl⟩,fun b hb=>by cases hb⟩
 | qC=>simp [St.take] at e
 | own o s c=>
  simp only [St.take] at e
  cases hc:st.cell o s c with
  | none=>simp [hc] at e
  | some p=>
   obtain ⟨ob,m,s',t',z⟩:=p
   obtain ⟨hL,hx,hs⟩:=eF hc
   simp only at hs;subst hs
   obtain ⟨u,hu,hok,iq⟩:=h.cellAt hc
   obtain ⟨ob2,hL2,_,hval⟩:=hr
   simp only at hL;rw [hL] at hL2;cases hL2
   have:=hval _ hx rfl
   rw [hu] at this;cases this
   cases m with
   | gone=>simp [hc] at e
   | imm=>
    simp [hc] at e
    obtain ⟨rfl,rfl⟩:=e
    refine self _ ?_
    have:dm (dm t' z) z=dm t' z:=by cases z<;>rfl
    show CRi w (W.F (tg (dm (dm t' z) z))) [z] [v]
    rw [this];exact hok
   | sh=>
    simp [hc] at e
    obtain ⟨rfl,rfl⟩:=e
    cases z with
    | row zz es=>
     obtain ⟨W',k1,k2,k3,k4,k5,k6,k7,k8⟩:=IJ h hc (by intro e;cases e) (by intro e;cases e) (fun b=>W.fp o c=some b) (fun b hb=>hok.2 b hb) k (m:= .gone) (qG.none rfl) (fun v hv=>trivial)
     exact ⟨W',k1,rfl,k2,k3,k4,zz,es,W.fp o c,rfl,by rw [k5];exact hok.1,k8⟩
    | _=>exact hok.elim
   | dp n=>
    simp [hc] at e
    obtain ⟨rfl,rfl⟩:=e
    cases z with
    | row zz es=>
     obtain ⟨bs,d1,d2,d3⟩:=hok
     obtain ⟨W',k1,k2,k3,k4,k5,k6,k7,k8⟩:=IJ h hc (by intro e;cases e) (by intro e;cases e) (fun b=>b∈bs) (fun b hb=>d3 b hb) k (m:= .gone) (qG.none rfl) (fun v hv=>trivial)
     exact ⟨W',k1,rfl,k2,k3,k4,zz,es,_,bs,rfl,by rw [k5];exact d1,d2,k8⟩
    | _=>exact hok.elim
   | dd n i j=>simp [hc] at e
   | ws=>simp [hc] at e
   | fr=>simp [hc] at e
 | sub o s c lo hi=>
  simp only [St.take] at e
  cases hc:st.cell o s c with
  | none=>simp [hc] at e
  | some p=>
   obtain ⟨ob,m,s',t',z⟩:=p
   obtain ⟨hL,hx,hs⟩:=eF hc
   simp only at hs;subst hs
   obtain ⟨u,hu,hok,iq⟩:=h.cellAt hc
   obtain ⟨ob2,hL2,_,hval⟩:=hr
   simp only at hL;rw [hL] at hL2;cases hL2
   cases m with
   | gone=>simp [hc] at e
   | imm=>
    cases z with
    | row z es=>
     simp [hc] at e
     obtain ⟨rfl,rfl⟩:=e
     obtain ⟨h1,h2,a0,cap,h3,h4⟩:=hval _ hx rfl (by intro e;cases e) _ _ rfl
     rw [hu] at h3;cases h3
     exact self _ (CRi.part hok h1 h2 h4)
    | _=>simp [hc] at e
   | sh=>
    cases z with
    | row z es=>
     simp [hc] at e
     obtain ⟨rfl,rfl⟩:=e
     obtain ⟨h1,h2,a0,cap,h3,h4⟩:=hval _ hx rfl (by intro e;cases e) _ _ rfl
     rw [hu] at h3;cases h3
     obtain ⟨W',k1,k2,k3,k4,k5,k6,k7,k8⟩:=IJ h hc (by intro e;cases e) (by intro e;cases e) (fun b=>W.fp o c=some b) (fun b hb=>hok.2 b hb) k (m:= .gone) (qG.none rfl) (fun v hv=>trivial)
     exact ⟨W',k1,rfl,k2,k3,k4,z,_,W.fp o c,rfl,by rw [k5];exact hok.1.part h1 h2 h4,k8⟩
    | _=>simp [hc] at e
   | dp n=>simp [hc] at e
   | dd n i j=>simp [hc] at e
   | ws=>simp [hc] at e
   | fr=>simp [hc] at e
 | inr o s c i j n=>
  simp only [St.take] at e
  cases hc:st.cell o s c with
  | none=>simp [hc] at e
  | some p=>
   obtain ⟨ob,m,s',t',z⟩:=p
   obtain ⟨hL,hx,hs⟩:=eF hc
   simp only at hs;subst hs
   obtain ⟨u,hu,hok,iq⟩:=h.cellAt hc
   obtain ⟨ob2,hL2,_,hval⟩:=hr
   simp only at hL;rw [hL] at hL2;cases hL2
   cases m with
   | dp n'=>
    cases z with
    | row zz es=>
     simp only [hc,Option.bind_some] at e
     split at e
     ·rename_i hn
      have hn:=beq_eq hn
      subst hn
      obtain ⟨ee,hee,e⟩:=Option.bind_eq_some_iff.1 e
      split at e
      ·rename_i z es' hej
       cases e
       have hv:=(hval _ hx rfl).2 (show n'=n' from rfl) _ _ rfl
       obtain ⟨bs,d1,d2,d3⟩:=hok
       rcases d1 with ⟨rfl,_⟩ | ⟨b,off,cap,arr,T,fr,rest,ibs,q1,q2,q3,q4,q5,q6,q7,q8,q9⟩
       ·simp at hee
       ·have hg:=flat_get q5 hee hej
        obtain ⟨v',g1,_,g3⟩:=CRo.get q7 hg
        rw [hv] at g1;cases g1
        obtain ⟨ob',bs1,bs2,e1,e2,e3⟩:=g3 z es' rfl
        have hmem:∀x,ob'=some x→x∈bs:=fun x hx=>by rw [q2,e1,hx];simp
        have hnd:(b::(bs1++(ob'.toList++bs2))).Nodup:=by rw [←e1,←q2];exact d2
        obtain ⟨W',k1,k2,k3,k4,k5,k6,k7,k8⟩:=IJ h hc (by intro e;cases e) (by intro e;cases e) (fun x=>ob'=some x) (fun x hx=>d3 x (hmem x hx)) k (m:= .dd (n'+1) i j) ⟨(fun k hk=>by cases hk;exact ⟨n',rfl,Nat.le_succ _⟩),fun n a b e=> .inl ⟨by have e0:n'+1=n+1:=e.1;show n'=n;omega,trivial⟩⟩ (fun w0 hw0=>by
         rw [hu] at hw0;cases hw0
         refine ⟨b::(bs1++bs2),.inr ⟨b,off,cap,arr,T,fr,rest,bs1++bs2,q1,rfl,q3,q4,q5,q6,?_,q8,q9⟩,?_,fun x hx=>?_⟩
         ·refine ⟨?_,CRo.length q7,e3⟩
          have:i*zz+j< (es.flatMap AV.cells).length:=by
           rcases Nat.lt_or_ge (i*zz+j) (es.flatMap AV.cells).length with h' | h'
           ·exact h'
           ·rw [List.getElem?_eq_none h'] at hg;cases hg
          have hl:=CRo.length q7
          show i*zz+j< (W.us o c).length
          omega
         ·refine List.Nodup.sublist ?_ hnd
          exact List.Sublist.cons_cons _ (List.Sublist.append (List.Sublist.refl _) (List.sublist_append_right _ _))
         ·have hx':x∈bs:=by
           rw [q2,e1]
           rcases List.mem_cons.1 hx with rfl | hx
           ·exact List.mem_cons_self
           ·rcases List.mem_append.1 hx with hx | hx
            ·exact List.mem_cons_of_mem _ (List.mem_append_left _ hx)
            ·exact List.mem_cons_of_mem _ (List.mem_append_right _ (List.mem_append_right _ hx))
          rw [kS]
          ·exact d3 x hx'
          ·intro hxo
           rw [hxo] at hnd
           rcases List.mem_cons.1 hx with rfl | hx
           ·have:=(List.nodup_cons.1 hnd).1
            exact this (by simp)
           ·have h1:=(List.nodup_cons.1 hnd).2
            have h2:=List.nodup_append.1 h1
            rcases List.mem_append.1 hx with hx | hx
            ·exact h2.2.2 x hx x (by simp) rfl
            ·have:=(List.nodup_append.1 h2.2.1).2.2 x (by simp) x hx
             exact this rfl)
        exact ⟨W',k1,rfl,k2,k3,k4,z,es',ob',rfl,by rw [k5];exact e2,k8⟩
      ·cases e
     ·cases e
    | _=>simp [hc] at e
   | _=>simp [hc] at e
 | mp o s off=>
  simp only [St.take] at e
  cases hf:st.fix sz (.mp o s off) with
  | none=>simp [hf] at e
  | some p=>
   simp [hf] at e
   obtain ⟨rfl,rfl⟩:=e
   obtain ⟨W',k1,k2,k3,k4,k5,k6⟩:=UL h hr (t:=p.1) (y:=p.2.1) (st':=p.2.2) hf
   refine ⟨W',k1,k2,k3,k4,k5,?_⟩
   unfold St.fix at hf
   obtain ⟨q,hq,rfl⟩:=Option.map_eq_some_iff.1 hf
   simp only [St.view] at hq
   obtain ⟨ob,_,hq⟩:=Option.bind_eq_some_iff.1 hq
   split at hq
   ·cases hq;exact k6
   ·cases hq
 | mpe o s c i off=>
  simp only [St.take] at e
  cases hf:st.fix sz (.mpe o s c i off) with
  | none=>simp [hf] at e
  | some p=>
   simp [hf] at e
   obtain ⟨rfl,rfl⟩:=e
   obtain ⟨W',k1,k2,k3,k4,k5,k6⟩:=UL h hr (t:=p.1) (y:=p.2.1) (st':=p.2.2) hf
   refine ⟨W',k1,k2,k3,k4,k5,?_⟩
   show CRi w (W'.F (tg (dm p.1 p.2.1))) [p.2.1] [v]
   exact k6.mono fun b hb=>⟨by
    unfold St.fix at hf
    obtain ⟨q,hq,rfl⟩:=Option.map_eq_some_iff.1 hf
    simp only [St.view] at hq
    obtain ⟨⟨ob,m,s',t',z⟩,_,hq⟩:=Option.bind_eq_some_iff.1 hq
    cases m<;>cases z<;>simp at hq
    all_goals (obtain ⟨e1,_,rfl⟩:=hq;exact hb),rfl⟩
end
end
end Go.Sim
