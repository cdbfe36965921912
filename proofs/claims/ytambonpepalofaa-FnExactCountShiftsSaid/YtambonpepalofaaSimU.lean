/- How a caller goes on: what was lent comes back. Conditions: none. -/
import Derived.Test.YtambonpepalofaaSimT
namespace Go.Sim
open Classical
set_option linter.unusedSimpArgs false
set_option linter.unusedVariables false
noncomputable section
theorem ids_of_oc (lks:List LK):(lks.filterMap LK.oc?).map (·.1)=lks.filterMap LK.id? :=by
 induction lks with
 | nil=>rfl
 | cons x lks ih=>
  cases x with
  | no=>exact ih
  | det=>exact ih
  | obj o=>exact congrArg (o::·) ih
  | row o c=>exact congrArg (o::·) ih
def OutAt (cfg:Cfg) (f:FuncId) (st st2 st3:St) (tag j:Nat):LK→Prop
 | .obj o=>∃ob ob2 cs,st.L o=some ob∧st2.L j=some ob2∧ob2.io=true∧ob2.mem=true∧ob2.fz=false∧FitsAt 1 ob2.cs cs∧
  st3.L o=some {ob with ctr:=ob.ctr+1,cs:=cs.map fun x=>⟨x.1.get,ob.ctr+1,(match x.1 with | .imm=>tagOf tag x.2 | _=>0),x.2⟩}
 | .row o c=>∃ob ob2 s2 sz es x es1,st.L o=some ob∧st2.L j=some ob2∧ob2.io=true∧ob2.mem=false∧ob2.cs=[⟨.sh,s2,0,.row sz es⟩]∧
  ob.cs[c]?=some x∧x.a= .row sz es1∧st3.L o=some {ob with cs:=ob.cs.set c ⟨.sh,x.s,0,.row sz es⟩}
 | _=>True
section
variable {P:Program} {cfg:Cfg} {callF:FuncId→List Arg→Option (Res×List Out)} {B:Base} {st st':St} {a:Act} {w:World} {W:Wit} {o:Oper} {nt f:Nat} {ops:Array Oper}
theorem outs_at {st2 st3:St} {tag:Nat} {T iot:Nat} {bor:List Nat} {w0:World} {W0:Wit} {stA:St}:∀(args:List Arg) (vs:List Value) (lks:List LK) (j:Nat) (lent:List (Nat×Nat×Nat)) (outs:List Out) {st:St},ArgsAt w0 W0 stA T iot bor args vs lks j→
 lent.map (fun x=>(x.1,x.2.2))=lks.filterMap LK.oc? →dupl (lks.filterMap LK.id?)=false→outsOf cfg st2 f j args=some outs→putBack st tag lent outs=some st3→
 st3.sl=st.sl∧(∀o,o∉lks.filterMap LK.id? →st3.L o=st.L o)∧∀(i:Nat) lk,lks[i]?=some lk→OutAt cfg f st st2 st3 tag (j+i) lk
 | [],vs,lks,j,lent,outs,st,hA,hlent,hd,e1,e2=>by
  have:lks=[]:=List.length_eq_zero_iff.1 hA.len
  subst this
  have:lent=[]:=by simpa using hlent
  subst this
  cases e1
  cases e2
  exact ⟨rfl,fun _ _=>rfl,fun i lk h=>by simp at h⟩
 | x::args,vs,lks,j,lent,outs,st,hA,hlent,hd,e1,e2=>by
  cases lks with
  | nil=>have:=hA.len;simp at this
  | cons lk lks=>
   cases vs with
   | nil=>have:=hA.vlen;simp at this
   | cons v vs=>
    have h0:ArgAt w0 W0 stA T iot bor j x v lk:=by
     have:=hA.at_ 0 x v lk rfl rfl rfl
     simpa using this
    have hA':ArgsAt w0 W0 stA T iot bor args vs lks (j+1):=⟨by simpa using hA.len,by simpa using hA.vlen,fun i x v lk hx hv hl=>by
     have:=hA.at_ (i+1) x v lk (by simpa using hx) (by simpa using hv) (by simpa using hl)
     rwa [show j+(i+1)=j+1+i by omega] at this⟩
    have pass:LK.oc? lk=none→LK.id? lk=none→outsOf cfg st2 f (j+1) args=some outs→(∀st st2 st3,OutAt cfg f st st2 st3 tag j lk)→
     st3.sl=st.sl∧(∀o,o∉(lk::lks).filterMap LK.id? →st3.L o=st.L o)∧∀(i:Nat) lk',(lk::lks)[i]?=some lk'→OutAt cfg f st st2 st3 tag (j+i) lk':=by
     intro hn1 hn2 e1 htriv
     rw [List.filterMap_cons_none hn1] at hlent
     rw [List.filterMap_cons_none hn2] at hd
     obtain ⟨k1,k2,k3⟩:=outs_at args vs lks (j+1) lent outs hA' hlent hd e1 e2
     refine ⟨k1,fun o ho=>k2 o (by rwa [List.filterMap_cons_none hn2] at ho),fun i lk' hi=>?_⟩
     cases i with
     | zero=>simp at hi;subst hi;exact htriv _ _ _
     | succ i=>
      have:=k3 i lk' (by simpa using hi)
      rwa [show j+(i+1)=j+1+i by omega]
    have more:∀{o c:Nat} {out:Out} {outs':List Out} {s:Nat} {lent':List (Nat×Nat×Nat)} {ob ob':Obj},LK.oc? lk=some (o,c)→LK.id? lk=some o→lent=(o,s,c)::lent'→lent'.map (fun x=>(x.1,x.2.2))=lks.filterMap LK.oc? →
     outsOf cfg st2 f (j+1) args=some outs'→st.L o=some ob→putBack (st.setObj o ob') tag lent' outs'=some st3→(st3.L o=some ob'→OutAt cfg f st st2 st3 tag j lk)→
     st3.sl=st.sl∧(∀o,o∉(lk::lks).filterMap LK.id? →st3.L o=st.L o)∧∀(i:Nat) lk',(lk::lks)[i]?=some lk'→OutAt cfg f st st2 st3 tag (j+i) lk':=by
     intro o c out outs' s lent' ob ob' ho1 ho2 hle hle' e1' hLo e2' hout
     rw [List.filterMap_cons_some ho2] at hd
     simp only [dupl,Bool.or_eq_false_iff] at hd
     have hnot:o∉lks.filterMap LK.id? :=fun hm=>by
      have:=List.any_eq_false.1 hd.1 o hm
      simp at this
     obtain ⟨k1,k2,k3⟩:=outs_at args vs lks (j+1) lent' outs' hA' hle' hd.2 e1' e2'
     have hne:∀{o'},o'∈lks.filterMap LK.id? →o'≠o:=fun hm e=>hnot (e ▸ hm)
     refine ⟨k1,fun o' ho'=>?_,fun i lk' hi=>?_⟩
     ·rw [List.filterMap_cons_some ho2] at ho'
      rw [k2 o' fun hm=>ho' (List.mem_cons_of_mem _ hm)]
      have:o'≠o:=fun e=>ho' (by rw [e];exact List.mem_cons_self)
      simp only [St.setObj,upd_ne _ _ this]
     ·cases i with
      | zero=>
       simp at hi;subst hi
       exact hout (by rw [k2 o hnot];simp [St.setObj,upd_same])
      | succ i=>
       have h1:=k3 i lk' (by simpa using hi)
       rw [show j+(i+1)=j+1+i by omega]
       have hmem:lk'∈lks:=List.mem_of_getElem? (by simpa using hi)
       cases lk' with
       | obj o'=>
        have:o'≠o:=hne (List.mem_filterMap.2 ⟨_,hmem,rfl⟩)
        obtain ⟨ob1,r1,r2⟩:=h1
        exact ⟨ob1,r1,by obtain ⟨cs,q1,q2⟩:=r2;refine ⟨cs,?_,q2⟩;simpa only [St.setObj,upd_ne _ _ this] using q1⟩
       | row o' c'=>
        have:o'≠o:=hne (List.mem_filterMap.2 ⟨_,hmem,rfl⟩)
        obtain ⟨ob1,ob2,s2,sz,es,x1,es1,q1,q2⟩:=h1
        exact ⟨ob1,ob2,s2,sz,es,x1,es1,by simpa only [St.setObj,upd_ne _ _ this] using q1,q2⟩
       | _=>trivial
    cases lk with
    | no=>
     obtain ⟨ag,as,⟨rfl,_⟩ | ⟨rfl,_⟩⟩:=h0<;>exact pass rfl rfl e1 fun _ _ _=>trivial
    | det=>
     obtain ⟨sz,es,rfl,_⟩:=h0
     exact pass rfl rfl e1 fun _ _ _=>trivial
    | obj o=>
     obtain ⟨ob0,cs0,rfl,_⟩:=h0
     rw [List.filterMap_cons_some (show LK.oc? (LK.obj o)=some (o,0) from rfl)] at hlent
     cases lent with
     | nil=>simp at hlent
     | cons l lent=>
      obtain ⟨o',s,c'⟩:=l
      simp only [List.map_cons,List.cons.injEq,Prod.mk.injEq] at hlent
      obtain ⟨⟨rfl,rfl⟩,hlent⟩:=hlent
      simp only [outsOf] at e1
      obtain ⟨ob2,hL2,e1⟩:=Option.bind_eq_some_iff.1 e1
      split at e1
      ·rename_i hc
       simp only [Bool.and_eq_true,Bool.not_eq_true'] at hc
       obtain ⟨⟨cs,t⟩,hfit,e1⟩:=Option.bind_eq_some_iff.1 e1
       split at e1
       ·rename_i ht
        have ht:=ble_le ht
        obtain ⟨outs',e1',e1⟩:=Option.map_eq_some_iff.1 e1
        subst e1
        simp only [putBack] at e2
        obtain ⟨ob,hob,e2⟩:=Option.bind_eq_some_iff.1 e2
        have hL:=(obj_inv hob).1
        refine more (c:=0) (out:= .ptr ob0.ag cs) rfl rfl rfl hlent e1' hL e2 fun h3=>?_
        cases hm:cfg.par f j with
        | ptr ms=>
         rw [hm] at hfit
         exact ⟨ob,ob2,cs,hL,hL2,hc.1.1,hc.1.2,hc.2,fits_ok hfit ht,h3⟩
        | _=>rw [hm] at hfit;cases hfit
       ·cases e1
      ·cases e1
    | row o c=>
     obtain ⟨ob0,s0,sz0,es0,rfl,_⟩:=h0
     rw [List.filterMap_cons_some (show LK.oc? (LK.row o c)=some (o,c) from rfl)] at hlent
     cases lent with
     | nil=>simp at hlent
     | cons l lent=>
      obtain ⟨o',s,c'⟩:=l
      simp only [List.map_cons,List.cons.injEq,Prod.mk.injEq] at hlent
      obtain ⟨⟨rfl,rfl⟩,hlent⟩:=hlent
      simp only [outsOf] at e1
      obtain ⟨ob2,hL2,e1⟩:=Option.bind_eq_some_iff.1 e1
      split at e1
      ·rename_i hc
       simp only [Bool.and_eq_true,Bool.not_eq_true'] at hc
       split at e1
       ·rename_i s2 sz es hcs
        obtain ⟨outs',e1',e1⟩:=Option.map_eq_some_iff.1 e1
        subst e1
        simp only [putBack] at e2
        obtain ⟨⟨ob,x⟩,hob,e2⟩:=Option.bind_eq_some_iff.1 e2
        have hL:=(cell_inv hob).1
        have hx:=(cell_inv hob).2.1
        split at e2
        ·rename_i hz
         have hxa:∃es1,x.a= .row sz es1:=by
          cases hxa:x.a with
          | row z es1=>
           simp only [hxa,AV.hasSz] at hz
           rw [beq_eq hz]
           exact ⟨_,rfl⟩
          | _=>simp [hxa,AV.hasSz] at hz
         obtain ⟨es1,hxa⟩:=hxa
         exact more (c:=c') (out:= .ow sz es) rfl rfl rfl hlent e1' hL e2 fun h3=>⟨ob,ob2,s2,sz,es,x,es1,hL,hL2,hc.1.1,hc.1.2,hcs,hx,hxa,h3⟩
        ·cases e2
       ·cases e1
      ·cases e1
end
end
end Go.Sim
