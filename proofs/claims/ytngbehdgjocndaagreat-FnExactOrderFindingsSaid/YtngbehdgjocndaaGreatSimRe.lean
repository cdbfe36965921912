/- Calls, what a variable that is made immutable leaves, regions of many orders: one rule for each shape. Conditions: none. -/
import Derived.Test.YtngbehdgjocndaaGreatSimRd
namespace Go.Sim
open Go.Pw
set_option linter.unusedSimpArgs false
set_option linter.unusedVariables false
def abZ:Res→Bool
 | [(false,[.pt _ _])]=>true
 | _=>false
noncomputable section
variable {P:Program} {cfg:Cfg} {C:yc} {f nt:Nat} {ops:Array Oper} {l:List Oper} {st st1 st2 X:St} {A A' A1 A2:List (Nat×SV)} {B B' B1 B2:List (Nat×Option Obj)}
variable {d:Nat} {op:Op} {dst:Option Tmp} {ty:TypeId} {pos:String} {aft:Array Edge} {gd:Option (Nat×Bool)}
theorem pp0 {xs:List SV}:Bj (mk A B) [] xs=some ([],mk A B):=by cases xs<;>rfl
theorem ppC {m:PM} {ks:List (Option Nat)} {pk:List (PM×List (Option Nat))} {x:SV} {xs:List SV} {pre:List (Option Arg)} (h0:(mk A B).SE m ks x=some (none,mk A B)) (h:Bj (mk A B) pk xs=some (pre,mk A' B')):
 Bj (mk A B) ((m,ks)::pk) (x::xs)=some (none::pre,mk A' B'):=by
 simp only [Bj,h0,Option.bind_some,h,Option.map_some]
theorem pb0 {t:Nat}:lK (mk A B) t [] []=some (mk A B):=rfl
theorem pbO {t o s c sz:Nat} {ls:List (Nat×Nat×Nat)} {es:List AV} {os:List Out} {ob:Obj} {x:Cell} (hL:look none B o=some ob) (hc:ob.cs[c]?=some x) (hs:x.s=s) (ha:x.a.ZJ sz=true)
 (h:lK (mk A ((o,some {ob with cs:=ob.cs.set c ⟨.sh,x.s,0,.row sz es⟩})::B)) t ls os=some (mk A' B')):lK (mk A B) t ((o,s,c)::ls) (.ow sz es::os)=some (mk A' B'):=by
 simp only [lK,qK hL hc hs,Option.bind_some,ha,if_true]
 exact h
theorem Xx (caps:List RV):(caps.map fun r=>((0:TypeId),SV.v false [r]))=(caps.map fun _=>(0:TypeId)).zip (caps.map fun r=>SV.v false [r]):=by
 induction caps with
 | nil=>rfl
 | cons c caps ih=>simp only [List.map_cons,List.zip_cons_cons,ih]
def Es (v:SV) (h:FuncId) (caps:List RV):Prop:=v= .fn h caps∨∃t cs,v= .v false [.im t (.clo h cs)]∧caps=cs.map (RV.im t)
theorem YM {g:Operand} {h:FuncId} {caps:List RV} {as:Array Operand} {ats:Array TypeId} {pk:List (PM×List (Option Nat))} {xs:List SV} {pre:List (Option Arg)} {args:List Arg} {bor:List Nat} {iZ:List (Nat×Nat×Nat)} {tag fO:Nat} {res:Res} {outs:List Out}
 (hc:C h args=some (res,outs)) (hg:Es ((mk A B).get g) h caps) (hsz:(ats.size.beq as.size&&F5 nt dst)=true) (hK:aJ P cfg h 0 (ats.toList++caps.map fun _=>0)=pk) (hx:(as.toList.map (mk A B).get)++(caps.map fun r=>SV.v false [r])=xs)
 (hp:Bj (mk A B) pk xs=some (pre,st1)) (hs:MP st1 pk xs pre=some ⟨args,bor,iZ,tag,fO⟩) (hov:(overlap bor (iZ.map (·.1))||Gj (iZ.map (·.1)))=false)
 (hb:lK st1 fO iZ outs=some st2) (hu:st2.unpack dst (DV (!bor.isEmpty) tag fO) res=some X) (hfr:(cfg.fresh h dst||cfg.unf h dst)=false):
 aH P cfg C nt ⟨dst,.call ⟨.value g,as,ats⟩,ty,pos,aft,gd⟩ (mk A B)=some X:=by
 have hlen:ats.toList.length=(as.toList.map (mk A B).get).length:=by
  simp only [Bool.and_eq_true] at hsz
  have:=Nat.eq_of_beq_eq_true hsz.1
  simpa using this
 have ajA:ats.toList.zip (as.toList.map (mk A B).get)++(caps.map fun r=>((0:TypeId),SV.v false [r]))=(ats.toList++caps.map fun _=>0).zip xs:=by
  rw [←hx,List.zip_append hlen,Xx]
 have hlen2:(ats.toList++caps.map fun _=>(0:TypeId)).length=xs.length:=by
  rw [←hx]
  simp only [List.length_append,hlen,List.length_map]
 have hev:aH P cfg C nt ⟨dst,.call ⟨.value g,as,ats⟩,ty,pos,aft,gd⟩ (mk A B)=(mk A B).call P cfg C dst h (ats.toList.zip (as.toList.map (mk A B).get)++(caps.map fun r=>((0:TypeId),SV.v false [r]))):=by
  rcases hg with hg | ⟨t,cs,hg,rfl⟩
  ·simp only [aH,hg,hsz,if_true]
  ·simp only [aH,hg,hsz,if_true,List.map_map]
   rfl
 rw [hev,ajA]
 unfold St.call
 refine alB ?_
 unfold St.wB
 rw [JO h _ _ 0 _ hlen2,hK,hp]
 simp only [Option.bind_some]
 rw [MQ h _ _ _ _ 0 hlen2,hK,hs]
 obtain ⟨hf1,hf2⟩:=Bool.or_eq_false_iff.1 hfr
 simp only [Option.bind_some,hov,hf1,hf2,Bool.false_and,Bool.false_eq_true,if_false,hc,hb,hu]
theorem Ut {d:Nat} {mt:Nat→Option Nat} {res:Res} (hnp:abZ res=false):
 st.unpack (some d) mt res=(uX d (st.sG d) mt res []).map (fun q=>(st.Dw d q.2).cZ d (F6 q.1)):=by
 refine JL fun ag cs e=>?_
 subst e
 cases hnp
theorem oCa {g:Operand} {h:FuncId} {caps:List RV} {as:Array Operand} {ats:Array TypeId} {pk:List (PM×List (Option Nat))} {xs:List SV} {pre:List (Option Arg)} {args:List Arg} {bor:List Nat} {iZ:List (Nat×Nat×Nat)} {tag fO:Nat} {res:Res} {outs:List Out} {vs:List (Bool×List RV)} {v:SV}
 (hc:C h args=some (res,outs)) (hg:Es ((mk A B).get g) h caps) (hsz:(ats.size.beq as.size&&F5 nt (some d))=true) (hK:aJ P cfg h 0 (ats.toList++caps.map fun _=>0)=pk) (hx:(as.toList.map (mk A B).get)++(caps.map fun r=>SV.v false [r])=xs)
 (hp:Bj (mk A B) pk xs=some (pre,mk A1 B1)) (hs:MP (mk A1 B1) pk xs pre=some ⟨args,bor,iZ,tag,fO⟩) (hov:(overlap bor (iZ.map (·.1))||Gj (iZ.map (·.1)))=false)
 (hb:lK (mk A1 B1) fO iZ outs=some (mk A2 B2)) (hnp:abZ res=false) (hi:uX d (ja B2 d).2 (DV (!bor.isEmpty) tag fO) res []=some (vs,[])) (hv:F6 vs=v) (hfr:(cfg.fresh h (some d)||cfg.unf h (some d))=false:=by exact rfl):
 aH P cfg C nt ⟨some d,.call ⟨.value g,as,ats⟩,ty,pos,aft,gd⟩ (mk A B)=some (mk ((d,v)::A2) B2):=by
 refine YM hc hg hsz hK hx hp hs hov hb ?_ hfr
 rw [Ut hnp]
 have e:(mk A2 B2).sG d=(ja B2 d).2:=by
  unfold St.sG ja
  have e:(mk A2 B2).L d=look none B2 d:=rfl
  rw [e]
  cases look none B2 d<;>rfl
 rw [e,hi]
 subst hv
 rfl
theorem oCr {g:Operand} {h:FuncId} {caps:List RV} {as:Array Operand} {ats:Array TypeId} {pk:List (PM×List (Option Nat))} {xs:List SV} {pre:List (Option Arg)} {args:List Arg} {bor:List Nat} {iZ:List (Nat×Nat×Nat)} {tag fO:Nat} {res:Res} {outs:List Out} {vs:List (Bool×List RV)} {v:SV} {c:CV} {cs:List CV}
 (hc:C h args=some (res,outs)) (hg:Es ((mk A B).get g) h caps) (hsz:(ats.size.beq as.size&&F5 nt (some d))=true) (hK:aJ P cfg h 0 (ats.toList++caps.map fun _=>0)=pk) (hx:(as.toList.map (mk A B).get)++(caps.map fun r=>SV.v false [r])=xs)
 (hp:Bj (mk A B) pk xs=some (pre,mk A1 B1)) (hs:MP (mk A1 B1) pk xs pre=some ⟨args,bor,iZ,tag,fO⟩) (hov:(overlap bor (iZ.map (·.1))||Gj (iZ.map (·.1)))=false)
 (hb:lK (mk A1 B1) fO iZ outs=some (mk A2 B2)) (hnp:abZ res=false) (hi:uX d (ja B2 d).2 (DV (!bor.isEmpty) tag fO) res []=some (vs,c::cs)) (hv:F6 vs=v) (hfr:(cfg.fresh h (some d)||cfg.unf h (some d))=false:=by exact rfl):
 aH P cfg C nt ⟨some d,.call ⟨.value g,as,ats⟩,ty,pos,aft,gd⟩ (mk A B)=some (mk ((d,v)::A2) ((d,some (zg (ja B2 d) false false (c::cs)))::B2)):=by
 refine YM hc hg hsz hK hx hp hs hov hb ?_ hfr
 rw [Ut hnp]
 have e:(mk A2 B2).sG d=(ja B2 d).2:=by
  unfold St.sG ja
  have e:(mk A2 B2).L d=look none B2 d:=rfl
  rw [e]
  cases look none B2 d<;>rfl
 rw [e,hi]
 subst hv
 simp only [Option.map_some,St.Dw,AO]
 rfl
theorem oCp {g:Operand} {h:FuncId} {caps:List RV} {as:Array Operand} {ats:Array TypeId} {pk:List (PM×List (Option Nat))} {xs:List SV} {pre:List (Option Arg)} {args:List Arg} {bor:List Nat} {iZ:List (Nat×Nat×Nat)} {tag fO:Nat} {outs:List Out} {ag:Bool} {cs cs':List CV}
 (hc:C h args=some ([(false,[.pt ag cs])],outs)) (hg:Es ((mk A B).get g) h caps) (hsz:(ats.size.beq as.size&&F5 nt (some d))=true) (hK:aJ P cfg h 0 (ats.toList++caps.map fun _=>0)=pk) (hx:(as.toList.map (mk A B).get)++(caps.map fun r=>SV.v false [r])=xs)
 (hp:Bj (mk A B) pk xs=some (pre,mk A1 B1)) (hs:MP (mk A1 B1) pk xs pre=some ⟨args,bor,iZ,tag,fO⟩) (hov:(overlap bor (iZ.map (·.1))||Gj (iZ.map (·.1)))=false)
 (hb:lK (mk A1 B1) fO iZ outs=some (mk A2 B2)) (hi:TL (DV (!bor.isEmpty) tag fO) cs=some cs') (hfr:(cfg.fresh h (some d)||cfg.unf h (some d))=false:=by exact rfl):
 aH P cfg C nt ⟨some d,.call ⟨.value g,as,ats⟩,ty,pos,aft,gd⟩ (mk A B)=some (mk ((d,.v false [.mp d (ja B2 d).1 0])::A2) ((d,some (zg (ja B2 d) true ag cs'))::B2)):=by
 refine YM hc hg hsz hK hx hp hs hov hb ?_ hfr
 simp only [St.unpack,hi,Option.map_some,AO]
 rfl
theorem ad2 {g:Operand} {h:FuncId} {caps:List RV} {as:Array Operand} {ats:Array TypeId} {pk:List (PM×List (Option Nat))} {xs:List SV} {pre:List (Option Arg)} {args:List Arg} {bor:List Nat} {iZ:List (Nat×Nat×Nat)} {tag fO:Nat} {res:Res} {outs:List Out} {vs:List (Bool×List RV)} {v:SV}
 (hc:C h args=some (res,outs)) (hg:Es ((mk A B).get g) h caps) (hsz:(ats.size.beq as.size&&F5 nt (some d))=true) (hK:aJ P cfg h 0 (ats.toList++caps.map fun _=>0)=pk) (hx:(as.toList.map (mk A B).get)++(caps.map fun r=>SV.v false [r])=xs)
 (hp:Bj (mk A B) pk xs=some (pre,mk A1 B1)) (hs:MP (mk A1 B1) pk xs pre=some ⟨args,bor,iZ,tag,fO⟩) (hov:(overlap bor (iZ.map (·.1))||Gj (iZ.map (·.1)))=false)
 (hi:Ef res=some vs) (hv:F6 vs=v) (hun:cfg.unf h (some d)=false) (hfr:(cfg.fresh h (some d)&&args.all Arg.TM)=true):
 aH P cfg C nt ⟨some d,.call ⟨.value g,as,ats⟩,ty,pos,aft,gd⟩ (mk A B)=some (mk ((d,v)::A1) B1):=by
 have hlen:ats.toList.length=(as.toList.map (mk A B).get).length:=by
  simp only [Bool.and_eq_true] at hsz
  have:=Nat.eq_of_beq_eq_true hsz.1
  simpa using this
 have ajA:ats.toList.zip (as.toList.map (mk A B).get)++(caps.map fun r=>((0:TypeId),SV.v false [r]))=(ats.toList++caps.map fun _=>0).zip xs:=by
  rw [←hx,List.zip_append hlen,Xx]
 have hlen2:(ats.toList++caps.map fun _=>(0:TypeId)).length=xs.length:=by
  rw [←hx]
  simp only [List.length_append,hlen,List.length_map]
 have hev:aH P cfg C nt ⟨some d,.call ⟨.value g,as,ats⟩,ty,pos,aft,gd⟩ (mk A B)=(mk A B).call P cfg C (some d) h (ats.toList.zip (as.toList.map (mk A B).get)++(caps.map fun r=>((0:TypeId),SV.v false [r]))):=by
  rcases hg with hg | ⟨t,cs,hg,rfl⟩
  ·simp only [aH,hg,hsz,if_true]
  ·simp only [aH,hg,hsz,if_true,List.map_map]
   rfl
 rw [hev,ajA]
 unfold St.call
 refine alB ?_
 unfold St.wB
 rw [JO h _ _ 0 _ hlen2,hK,hp]
 simp only [Option.bind_some]
 rw [MQ h _ _ _ _ 0 hlen2,hK,hs]
 simp only [Option.bind_some,hov,hun,Bool.false_and,hfr,Bool.false_eq_true,if_false,if_true,hc,hi,hv,Option.map_some]
 rfl
theorem oCF {g:Operand} {h:FuncId} {caps:List RV} {as:Array Operand} {ats:Array TypeId} {pk:List (PM×List (Option Nat))} {xs:List SV} {pre:List (Option Arg)} {args:List Arg} {bor:List Nat} {iZ:List (Nat×Nat×Nat)} {tag fO:Nat} {res:Res} {outs:List Out} {vs:List (Bool×List RV)} {v:SV}
 (hc:C h args=some (res,outs)) (hg:Es ((mk A B).get g) h caps) (hsz:(ats.size.beq as.size&&F5 nt (some d))=true) (hK:aJ P cfg h 0 (ats.toList++caps.map fun _=>0)=pk) (hx:(as.toList.map (mk A B).get)++(caps.map fun r=>SV.v false [r])=xs)
 (hp:Bj (mk A B) pk xs=some (pre,mk A1 B1)) (hs:MP (mk A1 B1) pk xs pre=some ⟨args,bor,iZ,tag,fO⟩) (hov:(overlap bor (iZ.map (·.1))||Gj (iZ.map (·.1)))=false)
 (hi:Ef res=some vs) (hv:F6 vs=v) (hfr:cfg.fresh h (some d)=true:=by exact rfl) (hun:cfg.unf h (some d)=false:=by exact rfl) (hal:args.all Arg.TM=true:=by exact rfl):
 aH P cfg C nt ⟨some d,.call ⟨.value g,as,ats⟩,ty,pos,aft,gd⟩ (mk A B)=some (mk ((d,v)::A1) B1):=
 ad2 hc hg hsz hK hx hp hs hov hi hv hun (by rw [hfr,hal];rfl)
theorem aod {ks:List (Option Nat)} {o s c:Nat} {ob:Obj} {t:Nat} {a:AV} (hx:look .qC A d= .v false [.own o s c]) (hL:look none B o=some ob) (hc:ob.cs[c]?=some ⟨.sh,s,t,a⟩):
 (mk A B).vV ks d=mk ((d,.v false [.im t a])::A) ((o,some (ob.bQ c .imm))::B):=by
 have e:(mk A B).sl d=look .qC A d:=rfl
 simp only [St.vV,e,hx,St.Gx,St.UJ,St.fix,St.view,St.freeze,qK hL hc rfl,Option.bind_some,Option.map_some]
 rfl
theorem dN {i:Nat} (hz:(cfg.fc f).frz=[]) (hi:ops[i]?=some ⟨dst,op,ty,pos,aft,none⟩) (h:aH P cfg C nt ⟨dst,op,ty,pos,aft,none⟩ st=some st1):oV P cfg C f nt ops i st=some st1:=by
 unfold oV
 rw [hi]
 simp only [h,Option.map_some,hz,List.any_nil,cond]
 cases dst<;>rfl
theorem dT {i j t dj:Nat} {want v:Bool} (hz:(cfg.fc f).frz=[]) (hi:ops[i]?=some ⟨dst,op,ty,pos,aft,some (j,want)⟩) (hj:(ops[j]?).bind (·.dst)=some dj) (hb:st.sl dj= .v false [.im t (.sc (.bool v))]) (hv:v=want) (h:aH P cfg C nt ⟨dst,op,ty,pos,aft,some (j,want)⟩ st=some st1):oV P cfg C f nt ops i st=some st1:=by
 have hy:yields ops st j=some (some want):=by
  unfold yields
  rw [hj]
  simp only [hb,SV.bool?,hv,Option.map_some]
 unfold oV
 rw [hi]
 simp only [hy,Option.bind_some,if_true,h,Option.map_some,hz,List.any_nil,cond]
 cases dst<;>rfl
theorem dNn {i:Nat} {fz:List Nat} (hz:(cfg.fc f).frz=fz) (hd:fz.any (·.beq d)=false) (hi:ops[i]?=some ⟨some d,op,ty,pos,aft,none⟩) (h:aH P cfg C nt ⟨some d,op,ty,pos,aft,none⟩ st=some st1):oV P cfg C f nt ops i st=some st1:=by
 unfold oV
 rw [hi]
 simp only [h,Option.map_some,hz,hd,cond]
theorem dN0 {i:Nat} (hi:ops[i]?=some ⟨none,op,ty,pos,aft,none⟩) (h:aH P cfg C nt ⟨none,op,ty,pos,aft,none⟩ st=some st1):oV P cfg C f nt ops i st=some st1:=by
 unfold oV
 rw [hi]
 simp only [h,Option.map_some]
theorem dF {i j t dj:Nat} {want v:Bool} (hi:ops[i]?=some ⟨some d,op,ty,pos,aft,some (j,want)⟩) (hj:(ops[j]?).bind (·.dst)=some dj) (hb:(mk A B).sl dj= .v false [.im t (.sc (.bool v))]) (hv:v=!want) (hd:Nat.blt d nt=true):oV P cfg C f nt ops i (mk A B)=some (mk ((d,.tup [])::A) B):=by
 have hy:yields ops (mk A B) j=some (some (!want)):=by
  unfold yields
  rw [hj]
  have hb:look .qC A dj= .v false [.im t (.sc (.bool v))]:=hb
  simp only [hb,SV.bool?,hv,Option.map_some]
 have hne:¬(some (!want)=some want):=by cases want<;>simp
 unfold oV
 rw [hi]
 simp only [hy,Option.bind_some,if_neg hne,hd,if_true]
 rfl
theorem dU {i j dj:Nat} {want:Bool} (hi:ops[i]?=some ⟨some d,op,ty,pos,aft,some (j,want)⟩) (hj:(ops[j]?).bind (·.dst)=some dj) (hb:(mk A B).sl dj= .tup []) (hd:Nat.blt d nt=true):oV P cfg C f nt ops i (mk A B)=some (mk ((d,.tup [])::A) B):=by
 have hy:yields ops (mk A B) j=some none:=by
  unfold yields
  rw [hj]
  have hb:look .qC A dj= .tup []:=hb
  simp only [hb]
 have hne:¬((none:Option Bool)=some want):=by simp
 unfold oV
 rw [hi]
 simp only [hy,Option.bind_some,if_neg hne,hd,if_true]
 rfl
theorem sD {k:Option (List Nat×List Nat)} {κ:List (List Nat×List Nat)} (h:st.xR k=X):gp P cfg C f nt ops k κ .done st=some X:=by rw [←h];rfl
theorem sT {k:Option (List Nat×List Nat)} {κ:List (List Nat×List Nat)} {i:Nat} {ws us:List Nat} {t:Sch} (hok:xU cfg f ops us i st=true) (h:oV P cfg C f nt ops i st=some st1) (ht:gp P cfg C f nt ops k κ t st1=some X):gp P cfg C f nt ops k κ (.first i ws us t) st=some X:=by
 simp only [gp,hok,if_true,h,Option.bind_some,ht]
theorem sK {k:Option (List Nat×List Nat)} {κ:List (List Nat×List Nat)} {i:Nat} {ws us O:List Nat} {t:Sch} (hok:xU cfg f ops us i st=false) (hf:BB (cfg.fc f).frz ops.toList=true) (hO:Me ops i st=O) (h:oV P cfg C f nt ops i st=some st1) (ht:gp P cfg C f nt ops k ((us,O)::κ) t st1=some X):gp P cfg C f nt ops k κ (.first i ws us t) st=some X:=by
 subst hO
 simp only [gp,hok,Bool.false_eq_true,if_false,hf,if_true,h,Option.bind_some,ht]
theorem sF {k:Option (List Nat×List Nat)} {κ:List (List Nat×List Nat)} {i:Nat} {t r:Sch} (h:oV P cfg C f nt ops i st=some st1) (hk:kOK κ i st st1) (ht:gp P cfg C f nt ops k κ t st1=some X) (hr:gp P cfg C f nt ops k κ r st=some X):gp P cfg C f nt ops k κ (.fork i t r) st=some X:=by
 simp only [gp,h,Option.bind_some,ht,hr,or_true,hk,and_self,if_true]
theorem sS {k:Option (List Nat×List Nat)} {κ:List (List Nat×List Nat)} {i:Nat} {t:Sch} (h:oV P cfg C f nt ops i st=some st1) (hk:kOK κ i st st1) (ht:gp P cfg C f nt ops k κ t st1=some X):gp P cfg C f nt ops k κ (.fork i t .stop) st=some X:=by
 simp only [gp,h,Option.bind_some,ht,Sch.ac9,true_or,hk,and_self,if_true]
theorem kN {κ:List (List Nat×List Nat)} {us O:List Nat} {i:Nat} {s s':St} (h:us.contains i=false) (hr:kOK κ i s s'):kOK ((us,O)::κ) i s s':=⟨(fun hu=>by rw [h] at hu;cases hu),hr⟩
theorem kY {κ:List (List Nat×List Nat)} {us O:List Nat} {i:Nat} {s s':St} (h:ZK s s' O) (hr:kOK κ i s s'):kOK ((us,O)::κ) i s s':=⟨fun _=>h,hr⟩
end
end Go.Sim
