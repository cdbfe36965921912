/- Calls, what a variable that is made immutable leaves, regions of many orders: one rule for each shape. Conditions: none. -/
import Derived.Test.YtjejfolfomknaaaSimRd
namespace Go.Sim
open Go.Pw
set_option linter.unusedSimpArgs false
set_option linter.unusedVariables false
def Xy:Res→Bool
 | [(false,[.pt _ _])]=>true
 | _=>false
noncomputable section
variable {P:Program} {cfg:Cfg} {C:rY} {f nt:Nat} {ops:Array Oper} {l:List Oper} {st st1 st2 X:St} {A A' A1 A2:List (Nat×SV)} {B B' B1 B2:List (Nat×Option Obj)}
variable {d:Nat} {op:Op} {dst:Option Tmp} {ty:TypeId} {pos:String} {aft:Array Edge} {gd:Option (Nat×Bool)}
theorem pp0 {xs:List SV}:nK (mk A B) [] xs=some ([],mk A B):=by cases xs<;>rfl
theorem ppC {m:PM} {ks:List (Option Nat)} {pk:List (PM×List (Option Nat))} {x:SV} {xs:List SV} {pre:List (Option Arg)} (h0:(mk A B).BG m ks x=some (none,mk A B)) (h:nK (mk A B) pk xs=some (pre,mk A' B')):
 nK (mk A B) ((m,ks)::pk) (x::xs)=some (none::pre,mk A' B'):=by
 simp only [nK,h0,Option.bind_some,h,Option.map_some]
theorem ppP {ms:List OM} {ks:List (Option Nat)} {pk:List (PM×List (Option Nat))} {o s:Nat} {ob:Obj} {xs:List SV} {pre:List (Option Arg)} (hL:look none B o=some ob) (hs:ob.gen=s) (hok:(ob.mem&&!ob.fz)=true)
 (h:nK (mk A ((o,some (ob.iH (BN 0 ms)))::B)) pk xs=some (pre,mk A' B')):nK (mk A B) ((.ptr ms,ks)::pk) (.v false [.mp o s 0]::xs)=some (none::pre,mk A' B'):=by
 have e:(mk A B).obj o s=some ob:=by
  unfold St.obj
  have e:(mk A B).L o=look none B o:=rfl
  rw [e,hL]
  simp only [Option.bind_some,hs,Nat.beq_refl,cond]
 have e2:(mk A B).BG (.ptr ms) ks (.v false [.mp o s 0])=some (none,mk A ((o,some (ob.iH (BN 0 ms)))::B)):=by
  simp only [St.BG,e,Option.bind_some,hok,if_true]
  rfl
 simp only [nK,e2,Option.bind_some,h,Option.map_some]
theorem ppM {ks:List (Option Nat)} {pk:List (PM×List (Option Nat))} {r:RV} {xs:List SV} {pre:List (Option Arg)} {sz:Nat} {es:List AV} (ht:(mk A B).take ((ks.head?.bind id).getD 0) r=some (⟨.sh,0,.row sz es⟩,mk A1 B1))
 (h:nK (mk A1 B1) pk xs=some (pre,mk A' B')):nK (mk A B) ((.mv,ks)::pk) (.v false [r]::xs)=some (some (.mv sz es)::pre,mk A' B'):=by
 have e2:(mk A B).BG .mv ks (.v false [r])=some (some (.mv sz es),mk A1 B1):=by
  simp only [St.BG,ht,Option.bind_some]
  rfl
 simp only [nK,e2,Option.bind_some,h,Option.map_some]
theorem ppX {ks:List (Option Nat)} {pk:List (PM×List (Option Nat))} {ag:Bool} {cs:List RV} {as:List AV} {xs:List SV} {pre:List (Option Arg)} (ht:(mk A B).fQ ks cs=some (0,as,mk A1 B1))
 (h:nK (mk A1 B1) pk xs=some (pre,mk A' B')):nK (mk A B) ((.cst true,ks)::pk) (.v ag cs::xs)=some (some (.im 0 ag as)::pre,mk A' B'):=by
 have e2:(mk A B).BG (.cst true) ks (.v ag cs)=some (some (.im 0 ag as),mk A1 B1):=by
  simp only [St.BG,ht,Option.bind_some]
  rfl
 simp only [nK,e2,Option.bind_some,h,Option.map_some]
theorem BJ {ks:List (Option Nat)} {pk:List (PM×List (Option Nat))} {ag:Bool} {cs:List RV} {as:List AV} {xs:List SV} {pre:List (Option Arg)} {t:Nat} (ht:(mk A B).fQ ks cs=some (t,as,mk A1 B1)) (h0:t=0)
 (h:nK (mk A1 B1) pk xs=some (pre,mk A' B')):nK (mk A B) ((.cst true,ks)::pk) (.v ag cs::xs)=some (some (.im 0 ag as)::pre,mk A' B'):=by
 subst h0
 exact ppX ht h
theorem pb0 {t:Nat}:iC (mk A B) t [] []=some (mk A B):=rfl
theorem pbP {t o s c:Nat} {ls:List (Nat×Nat×Nat)} {ag:Bool} {cs:List (OM×AV)} {os:List Out} {ob:Obj} (hL:look none B o=some ob) (hs:ob.gen=s)
 (h:iC (mk A ((o,some {ob with ctr:=ob.ctr+1,cs:=cs.map fun x=>⟨x.1.get,ob.ctr+1,(match x.1 with | .imm=>aY t x.2 | _=>0),x.2⟩})::B)) t ls os=some (mk A' B')):iC (mk A B) t ((o,s,c)::ls) (.ptr ag cs::os)=some (mk A' B'):=by
 have e:(mk A B).obj o s=some ob:=by
  unfold St.obj
  have e:(mk A B).L o=look none B o:=rfl
  rw [e,hL]
  simp only [Option.bind_some,hs,Nat.beq_refl,cond]
 simp only [iC,e,Option.bind_some]
 exact h
theorem zq {ms:List OM} {ks:List (Option Nat)} {pk:List (PM×List (Option Nat))} {o s:Nat} {ob ob':Obj} {xs:List SV} {pre:List (Option Arg)} (hL:look none B o=some ob) (hs:ob.gen=s) (hok:(ob.mem&&!ob.fz)=true)
 (he:ob.iH (BN 0 ms)=ob') (h:nK (mk A ((o,some ob')::B)) pk xs=some (pre,mk A' B')):nK (mk A B) ((.ptr ms,ks)::pk) (.v false [.mp o s 0]::xs)=some (none::pre,mk A' B'):=by
 subst he
 exact ppP hL hs hok h
theorem zu {t o s c:Nat} {ls:List (Nat×Nat×Nat)} {ag:Bool} {cs:List (OM×AV)} {os:List Out} {ob ob':Obj} (hL:look none B o=some ob) (hs:ob.gen=s)
 (he:({ob with ctr:=ob.ctr+1,cs:=cs.map fun x=>⟨x.1.get,ob.ctr+1,(match x.1 with | .imm=>aY t x.2 | _=>0),x.2⟩}:Obj)=ob') (h:iC (mk A ((o,some ob')::B)) t ls os=some (mk A' B')):iC (mk A B) t ((o,s,c)::ls) (.ptr ag cs::os)=some (mk A' B'):=by
 subst he
 exact pbP hL hs h
theorem pbO {t o s c sz:Nat} {ls:List (Nat×Nat×Nat)} {es:List AV} {os:List Out} {ob:Obj} {x:Cell} (hL:look none B o=some ob) (hc:ob.cs[c]?=some x) (hs:x.s=s) (ha:x.a.OX sz=true)
 (h:iC (mk A ((o,some {ob with cs:=ob.cs.set c ⟨.sh,x.s,0,.row sz es⟩})::B)) t ls os=some (mk A' B')):iC (mk A B) t ((o,s,c)::ls) (.ow sz es::os)=some (mk A' B'):=by
 simp only [iC,xI hL hc hs,Option.bind_some,ha,if_true]
 exact h
theorem TG (caps:List RV):(caps.map fun r=>((0:TypeId),SV.v false [r]))=(caps.map fun _=>(0:TypeId)).zip (caps.map fun r=>SV.v false [r]):=by
 induction caps with
 | nil=>rfl
 | cons c caps ih=>simp only [List.map_cons,List.zip_cons_cons,ih]
def D9 (v:SV) (h:FuncId) (caps:List RV):Prop:=v= .fn h caps∨∃t cs,v= .v false [.im t (.clo h cs)]∧caps=cs.map (RV.im t)
theorem Oi {g:Operand} {h:FuncId} {caps:List RV} {as:Array Operand} {ats:Array TypeId} {pk:List (PM×List (Option Nat))} {xs:List SV} {pre:List (Option Arg)} {args:List Arg} {bor:List Nat} {iV:List (Nat×Nat×Nat)} {tag gq:Nat} {res:Res} {outs:List Out}
 (hc:C h args=some (res,outs)) (hg:D9 ((mk A B).get g) h caps) (hsz:(ats.size.beq as.size&&Gz nt dst)=true) (hK:bG P cfg h 0 (ats.toList++caps.map fun _=>0)=pk) (hx:(as.toList.map (mk A B).get)++(caps.map fun r=>SV.v false [r])=xs)
 (hp:nK (mk A B) pk xs=some (pre,st1)) (hs:MN st1 pk xs pre=some ⟨args,bor,iV,tag,gq⟩) (hov:(overlap bor (iV.map (·.1))||BH (iV.map (·.1)))=false)
 (hb:iC st1 gq iV outs=some st2) (hu:st2.unpack dst (Cb (!bor.isEmpty) tag gq) res=some X) (hfr:(cfg.fresh h dst||cfg.unf h dst)=false):
 aF P cfg C nt ⟨dst,.call ⟨.value g,as,ats⟩,ty,pos,aft,gd⟩ (mk A B)=some X:=by
 have hlen:ats.toList.length=(as.toList.map (mk A B).get).length:=by
  simp only [Bool.and_eq_true] at hsz
  have:=Nat.eq_of_beq_eq_true hsz.1
  simpa using this
 have aah:ats.toList.zip (as.toList.map (mk A B).get)++(caps.map fun r=>((0:TypeId),SV.v false [r]))=(ats.toList++caps.map fun _=>0).zip xs:=by
  rw [←hx,List.zip_append hlen,TG]
 have hlen2:(ats.toList++caps.map fun _=>(0:TypeId)).length=xs.length:=by
  rw [←hx]
  simp only [List.length_append,hlen,List.length_map]
 have hev:aF P cfg C nt ⟨dst,.call ⟨.value g,as,ats⟩,ty,pos,aft,gd⟩ (mk A B)=(mk A B).call P cfg C dst h (ats.toList.zip (as.toList.map (mk A B).get)++(caps.map fun r=>((0:TypeId),SV.v false [r]))):=by
  rcases hg with hg | ⟨t,cs,hg,rfl⟩
  ·simp only [aF,hg,hsz,if_true]
  ·simp only [aF,hg,hsz,if_true,List.map_map]
   rfl
 rw [hev,aah]
 unfold St.call
 refine aag ?_
 unfold St.qp
 rw [Ic h _ _ 0 _ hlen2,hK,hp]
 simp only [Option.bind_some]
 rw [JA h _ _ _ _ 0 hlen2,hK,hs]
 obtain ⟨hf1,hf2⟩:=Bool.or_eq_false_iff.1 hfr
 simp only [Option.bind_some,hov,hf1,hf2,Bool.false_and,Bool.false_eq_true,if_false,hc,hb,hu]
theorem JC {d:Nat} {mt:Nat→Option Nat} {res:Res} (hnp:Xy res=false):
 st.unpack (some d) mt res=(tK d (st.mZ d) mt res []).map (fun q=>(st.xC d q.2).aV d (FH q.1)):=by
 refine CQ fun ag cs e=>?_
 subst e
 cases hnp
theorem oCa {g:Operand} {h:FuncId} {caps:List RV} {as:Array Operand} {ats:Array TypeId} {pk:List (PM×List (Option Nat))} {xs:List SV} {pre:List (Option Arg)} {args:List Arg} {bor:List Nat} {iV:List (Nat×Nat×Nat)} {tag gq:Nat} {res:Res} {outs:List Out} {vs:List (Bool×List RV)} {v:SV}
 (hc:C h args=some (res,outs)) (hg:D9 ((mk A B).get g) h caps) (hsz:(ats.size.beq as.size&&Gz nt (some d))=true) (hK:bG P cfg h 0 (ats.toList++caps.map fun _=>0)=pk) (hx:(as.toList.map (mk A B).get)++(caps.map fun r=>SV.v false [r])=xs)
 (hp:nK (mk A B) pk xs=some (pre,mk A1 B1)) (hs:MN (mk A1 B1) pk xs pre=some ⟨args,bor,iV,tag,gq⟩) (hov:(overlap bor (iV.map (·.1))||BH (iV.map (·.1)))=false)
 (hb:iC (mk A1 B1) gq iV outs=some (mk A2 B2)) (hnp:Xy res=false) (hi:tK d (iI B2 d).2 (Cb (!bor.isEmpty) tag gq) res []=some (vs,[])) (hv:FH vs=v) (hfr:(cfg.fresh h (some d)||cfg.unf h (some d))=false:=by exact rfl):
 aF P cfg C nt ⟨some d,.call ⟨.value g,as,ats⟩,ty,pos,aft,gd⟩ (mk A B)=some (mk ((d,v)::A2) B2):=by
 refine Oi hc hg hsz hK hx hp hs hov hb ?_ hfr
 rw [JC hnp]
 have e:(mk A2 B2).mZ d=(iI B2 d).2:=by
  unfold St.mZ iI
  have e:(mk A2 B2).L d=look none B2 d:=rfl
  rw [e]
  cases look none B2 d<;>rfl
 rw [e,hi]
 subst hv
 rfl
theorem oCr {g:Operand} {h:FuncId} {caps:List RV} {as:Array Operand} {ats:Array TypeId} {pk:List (PM×List (Option Nat))} {xs:List SV} {pre:List (Option Arg)} {args:List Arg} {bor:List Nat} {iV:List (Nat×Nat×Nat)} {tag gq:Nat} {res:Res} {outs:List Out} {vs:List (Bool×List RV)} {v:SV} {c:CV} {cs:List CV}
 (hc:C h args=some (res,outs)) (hg:D9 ((mk A B).get g) h caps) (hsz:(ats.size.beq as.size&&Gz nt (some d))=true) (hK:bG P cfg h 0 (ats.toList++caps.map fun _=>0)=pk) (hx:(as.toList.map (mk A B).get)++(caps.map fun r=>SV.v false [r])=xs)
 (hp:nK (mk A B) pk xs=some (pre,mk A1 B1)) (hs:MN (mk A1 B1) pk xs pre=some ⟨args,bor,iV,tag,gq⟩) (hov:(overlap bor (iV.map (·.1))||BH (iV.map (·.1)))=false)
 (hb:iC (mk A1 B1) gq iV outs=some (mk A2 B2)) (hnp:Xy res=false) (hi:tK d (iI B2 d).2 (Cb (!bor.isEmpty) tag gq) res []=some (vs,c::cs)) (hv:FH vs=v) (hfr:(cfg.fresh h (some d)||cfg.unf h (some d))=false:=by exact rfl):
 aF P cfg C nt ⟨some d,.call ⟨.value g,as,ats⟩,ty,pos,aft,gd⟩ (mk A B)=some (mk ((d,v)::A2) ((d,some (qQ (iI B2 d) false false (c::cs)))::B2)):=by
 refine Oi hc hg hsz hK hx hp hs hov hb ?_ hfr
 rw [JC hnp]
 have e:(mk A2 B2).mZ d=(iI B2 d).2:=by
  unfold St.mZ iI
  have e:(mk A2 B2).L d=look none B2 d:=rfl
  rw [e]
  cases look none B2 d<;>rfl
 rw [e,hi]
 subst hv
 simp only [Option.map_some,St.xC,xQ]
 rfl
theorem oCp {g:Operand} {h:FuncId} {caps:List RV} {as:Array Operand} {ats:Array TypeId} {pk:List (PM×List (Option Nat))} {xs:List SV} {pre:List (Option Arg)} {args:List Arg} {bor:List Nat} {iV:List (Nat×Nat×Nat)} {tag gq:Nat} {outs:List Out} {ag:Bool} {cs cs':List CV}
 (hc:C h args=some ([(false,[.pt ag cs])],outs)) (hg:D9 ((mk A B).get g) h caps) (hsz:(ats.size.beq as.size&&Gz nt (some d))=true) (hK:bG P cfg h 0 (ats.toList++caps.map fun _=>0)=pk) (hx:(as.toList.map (mk A B).get)++(caps.map fun r=>SV.v false [r])=xs)
 (hp:nK (mk A B) pk xs=some (pre,mk A1 B1)) (hs:MN (mk A1 B1) pk xs pre=some ⟨args,bor,iV,tag,gq⟩) (hov:(overlap bor (iV.map (·.1))||BH (iV.map (·.1)))=false)
 (hb:iC (mk A1 B1) gq iV outs=some (mk A2 B2)) (hi:I8 (Cb (!bor.isEmpty) tag gq) cs=some cs') (hfr:(cfg.fresh h (some d)||cfg.unf h (some d))=false:=by exact rfl):
 aF P cfg C nt ⟨some d,.call ⟨.value g,as,ats⟩,ty,pos,aft,gd⟩ (mk A B)=some (mk ((d,.v false [.mp d (iI B2 d).1 0])::A2) ((d,some (qQ (iI B2 d) true ag cs'))::B2)):=by
 refine Oi hc hg hsz hK hx hp hs hov hb ?_ hfr
 simp only [St.unpack,hi,Option.map_some,xQ]
 rfl
theorem dN {i:Nat} (hz:(cfg.fc f).frz=[]) (hi:ops[i]?=some ⟨dst,op,ty,pos,aft,none⟩) (h:aF P cfg C nt ⟨dst,op,ty,pos,aft,none⟩ st=some st1):kU P cfg C f nt ops i st=some st1:=by
 unfold kU
 rw [hi]
 simp only [h,Option.map_some,hz,List.any_nil,cond]
 cases dst<;>rfl
theorem dT {i j t dj:Nat} {want v:Bool} (hz:(cfg.fc f).frz=[]) (hi:ops[i]?=some ⟨dst,op,ty,pos,aft,some (j,want)⟩) (hj:(ops[j]?).bind (·.dst)=some dj) (hb:st.sl dj= .v false [.im t (.sc (.bool v))]) (hv:v=want) (h:aF P cfg C nt ⟨dst,op,ty,pos,aft,some (j,want)⟩ st=some st1):kU P cfg C f nt ops i st=some st1:=by
 have hy:yields ops st j=some (some want):=by
  unfold yields
  rw [hj]
  simp only [hb,SV.bool?,hv,Option.map_some]
 unfold kU
 rw [hi]
 simp only [hy,Option.bind_some,if_true,h,Option.map_some,hz,List.any_nil,cond]
 cases dst<;>rfl
theorem dF {i j t dj:Nat} {want v:Bool} (hi:ops[i]?=some ⟨some d,op,ty,pos,aft,some (j,want)⟩) (hj:(ops[j]?).bind (·.dst)=some dj) (hb:(mk A B).sl dj= .v false [.im t (.sc (.bool v))]) (hv:v=!want) (hd:Nat.blt d nt=true):kU P cfg C f nt ops i (mk A B)=some (mk ((d,.tup [])::A) B):=by
 have hy:yields ops (mk A B) j=some (some (!want)):=by
  unfold yields
  rw [hj]
  have hb:look .nP A dj= .v false [.im t (.sc (.bool v))]:=hb
  simp only [hb,SV.bool?,hv,Option.map_some]
 have hne:¬(some (!want)=some want):=by cases want<;>simp
 unfold kU
 rw [hi]
 simp only [hy,Option.bind_some,if_neg hne,hd,if_true]
 rfl
theorem dU {i j dj:Nat} {want:Bool} (hi:ops[i]?=some ⟨some d,op,ty,pos,aft,some (j,want)⟩) (hj:(ops[j]?).bind (·.dst)=some dj) (hb:(mk A B).sl dj= .tup []) (hd:Nat.blt d nt=true):kU P cfg C f nt ops i (mk A B)=some (mk ((d,.tup [])::A) B):=by
 have hy:yields ops (mk A B) j=some none:=by
  unfold yields
  rw [hj]
  have hb:look .nP A dj= .tup []:=hb
  simp only [hb]
 have hne:¬((none:Option Bool)=some want):=by simp
 unfold kU
 rw [hi]
 simp only [hy,Option.bind_some,if_neg hne,hd,if_true]
 rfl
theorem sD {k:Option (List Nat×List Nat)} {κ:List (List Nat×List Nat)} (h:st.qw k=X):iF P cfg C f nt ops k κ .done st=some X:=by rw [←h];rfl
theorem sT {k:Option (List Nat×List Nat)} {κ:List (List Nat×List Nat)} {i:Nat} {ws us:List Nat} {t:Sch} (hok:y9 cfg f ops us i st=true) (h:kU P cfg C f nt ops i st=some st1) (ht:iF P cfg C f nt ops k κ t st1=some X):iF P cfg C f nt ops k κ (.first i ws us t) st=some X:=by
 simp only [iF,hok,if_true,h,Option.bind_some,ht]
theorem sK {k:Option (List Nat×List Nat)} {κ:List (List Nat×List Nat)} {i:Nat} {ws us O:List Nat} {t:Sch} (hok:y9 cfg f ops us i st=false) (hf:uV (cfg.fc f).frz ops.toList=true) (hO:Ey ops i st=O) (h:kU P cfg C f nt ops i st=some st1) (ht:iF P cfg C f nt ops k ((us,O)::κ) t st1=some X):iF P cfg C f nt ops k κ (.first i ws us t) st=some X:=by
 subst hO
 simp only [iF,hok,Bool.false_eq_true,if_false,hf,if_true,h,Option.bind_some,ht]
theorem sF {k:Option (List Nat×List Nat)} {κ:List (List Nat×List Nat)} {i:Nat} {t r:Sch} (h:kU P cfg C f nt ops i st=some st1) (hk:kOK κ i st st1) (ht:iF P cfg C f nt ops k κ t st1=some X) (hr:iF P cfg C f nt ops k κ r st=some X):iF P cfg C f nt ops k κ (.fork i t r) st=some X:=by
 simp only [iF,h,Option.bind_some,ht,hr,or_true,hk,and_self,if_true]
theorem sS {k:Option (List Nat×List Nat)} {κ:List (List Nat×List Nat)} {i:Nat} {t:Sch} (h:kU P cfg C f nt ops i st=some st1) (hk:kOK κ i st st1) (ht:iF P cfg C f nt ops k κ t st1=some X):iF P cfg C f nt ops k κ (.fork i t .stop) st=some X:=by
 simp only [iF,h,Option.bind_some,ht,Sch.Rz,true_or,hk,and_self,if_true]
theorem kN {κ:List (List Nat×List Nat)} {us O:List Nat} {i:Nat} {s s':St} (h:us.contains i=false) (hr:kOK κ i s s'):kOK ((us,O)::κ) i s s':=⟨(fun hu=>by rw [h] at hu;cases hu),hr⟩
theorem kY {κ:List (List Nat×List Nat)} {us O:List Nat} {i:Nat} {s s':St} (h:OZ s s' O) (hr:kOK κ i s s'):kOK ((us,O)::κ) i s s':=⟨fun _=>h,hr⟩
end
end Go.Sim
