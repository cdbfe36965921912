/- Calls, what a variable that is made immutable leaves, regions of many orders: one rule for each shape. Conditions: none. -/
import Derived.Test.YtnjgcdpleghciaaSimRd
namespace Go.Sim
open Go.Pw
set_option linter.unusedSimpArgs false
set_option linter.unusedVariables false
def aCO:Res→Bool
 | [(false,[.pt _ _])]=>true
 | _=>false
noncomputable section
variable {P:Program} {cfg:Cfg} {C:anw} {f nt:Nat} {ops:Array Oper} {l:List Oper} {st st1 st2 X:St} {A A' A1 A2:List (Nat×SV)} {B B' B1 B2:List (Nat×Option Obj)}
variable {d:Nat} {op:Op} {dst:Option Tmp} {ty:TypeId} {pos:String} {aft:Array Edge} {gd:Option (Nat×Bool)}
theorem pp0 {xs:List SV}:am4 (mk A B) [] xs=some ([],mk A B):=by cases xs<;>rfl
theorem ppC {m:PM} {ks:List (Option Nat)} {pk:List (PM×List (Option Nat))} {x:SV} {xs:List SV} {pre:List (Option Arg)} (h0:(mk A B).aqU m ks x=some (none,mk A B)) (h:am4 (mk A B) pk xs=some (pre,mk A' B')):
 am4 (mk A B) ((m,ks)::pk) (x::xs)=some (none::pre,mk A' B'):=by
 simp only [am4,h0,Option.bind_some,h,Option.map_some]
theorem ppP {ms:List OM} {ks:List (Option Nat)} {pk:List (PM×List (Option Nat))} {o s:Nat} {ob:Obj} {xs:List SV} {pre:List (Option Arg)} (hL:look none B o=some ob) (hs:ob.gen=s) (hok:(ob.mem&&!ob.fz)=true)
 (h:am4 (mk A ((o,some (ob.akb (aqI 0 ms)))::B)) pk xs=some (pre,mk A' B')):am4 (mk A B) ((.ptr ms,ks)::pk) (.v false [.mp o s 0]::xs)=some (none::pre,mk A' B'):=by
 have e:(mk A B).obj o s=some ob:=by
  unfold St.obj
  have e:(mk A B).L o=look none B o:=rfl
  rw [e,hL]
  simp only [Option.bind_some,hs,Nat.beq_refl,cond]
 have e2:(mk A B).aqU (.ptr ms) ks (.v false [.mp o s 0])=some (none,mk A ((o,some (ob.akb (aqI 0 ms)))::B)):=by
  simp only [St.aqU,e,Option.bind_some,hok,if_true]
  rfl
 simp only [am4,e2,Option.bind_some,h,Option.map_some]
theorem ppM {ks:List (Option Nat)} {pk:List (PM×List (Option Nat))} {r:RV} {xs:List SV} {pre:List (Option Arg)} {sz:Nat} {es:List AV} (ht:(mk A B).take ((ks.head?.bind id).getD 0) r=some (⟨.sh,0,.row sz es⟩,mk A1 B1))
 (h:am4 (mk A1 B1) pk xs=some (pre,mk A' B')):am4 (mk A B) ((.mv,ks)::pk) (.v false [r]::xs)=some (some (.mv sz es)::pre,mk A' B'):=by
 have e2:(mk A B).aqU .mv ks (.v false [r])=some (some (.mv sz es),mk A1 B1):=by
  simp only [St.aqU,ht,Option.bind_some]
  rfl
 simp only [am4,e2,Option.bind_some,h,Option.map_some]
theorem take_nil {sz:Nat}:(mk A B).take sz .nil=some (⟨.sh,0,.row sz []⟩,mk A B):=rfl
theorem pb0 {t:Nat}:aj7 (mk A B) t [] []=some (mk A B):=rfl
theorem pbP {t o s c:Nat} {ls:List (Nat×Nat×Nat)} {ag:Bool} {cs:List (OM×AV)} {os:List Out} {ob:Obj} (hL:look none B o=some ob) (hs:ob.gen=s)
 (h:aj7 (mk A ((o,some {ob with ctr:=ob.ctr+1,cs:=cs.map fun x=>⟨x.1.get,ob.ctr+1,(match x.1 with | .imm=>aiS t x.2 | _=>0),x.2⟩})::B)) t ls os=some (mk A' B')):aj7 (mk A B) t ((o,s,c)::ls) (.ptr ag cs::os)=some (mk A' B'):=by
 have e:(mk A B).obj o s=some ob:=by
  unfold St.obj
  have e:(mk A B).L o=look none B o:=rfl
  rw [e,hL]
  simp only [Option.bind_some,hs,Nat.beq_refl,cond]
 simp only [aj7,e,Option.bind_some]
 exact h
theorem aDO {ms:List OM} {ks:List (Option Nat)} {pk:List (PM×List (Option Nat))} {o s:Nat} {ob ob':Obj} {xs:List SV} {pre:List (Option Arg)} (hL:look none B o=some ob) (hs:ob.gen=s) (hok:(ob.mem&&!ob.fz)=true)
 (he:ob.akb (aqI 0 ms)=ob') (h:am4 (mk A ((o,some ob')::B)) pk xs=some (pre,mk A' B')):am4 (mk A B) ((.ptr ms,ks)::pk) (.v false [.mp o s 0]::xs)=some (none::pre,mk A' B'):=by
 subst he
 exact ppP hL hs hok h
theorem aDP {t o s c:Nat} {ls:List (Nat×Nat×Nat)} {ag:Bool} {cs:List (OM×AV)} {os:List Out} {ob ob':Obj} (hL:look none B o=some ob) (hs:ob.gen=s)
 (he:({ob with ctr:=ob.ctr+1,cs:=cs.map fun x=>⟨x.1.get,ob.ctr+1,(match x.1 with | .imm=>aiS t x.2 | _=>0),x.2⟩}:Obj)=ob') (h:aj7 (mk A ((o,some ob')::B)) t ls os=some (mk A' B')):aj7 (mk A B) t ((o,s,c)::ls) (.ptr ag cs::os)=some (mk A' B'):=by
 subst he
 exact pbP hL hs h
theorem pbO {t o s c sz:Nat} {ls:List (Nat×Nat×Nat)} {es:List AV} {os:List Out} {ob:Obj} {x:Cell} (hL:look none B o=some ob) (hc:ob.cs[c]?=some x) (hs:x.s=s) (ha:x.a.avD sz=true)
 (h:aj7 (mk A ((o,some {ob with cs:=ob.cs.set c ⟨.sh,x.s,0,.row sz es⟩})::B)) t ls os=some (mk A' B')):aj7 (mk A B) t ((o,s,c)::ls) (.ow sz es::os)=some (mk A' B'):=by
 simp only [aj7,akt hL hc hs,Option.bind_some,ha,if_true]
 exact h
theorem awo (caps:List RV):(caps.map fun r=>((0:TypeId),SV.v false [r]))=(caps.map fun _=>(0:TypeId)).zip (caps.map fun r=>SV.v false [r]):=by
 induction caps with
 | nil=>rfl
 | cons c caps ih=>simp only [List.map_cons,List.zip_cons_cons,ih]
def aqk (v:SV) (h:FuncId) (caps:List RV):Prop:=v= .fn h caps∨∃t cs,v= .v false [.im t (.clo h cs)]∧caps=cs.map (RV.im t)
theorem az0 {g:Operand} {h:FuncId} {caps:List RV} {as:Array Operand} {ats:Array TypeId} {pk:List (PM×List (Option Nat))} {xs:List SV} {pre:List (Option Arg)} {args:List Arg} {bor:List Nat} {aj9:List (Nat×Nat×Nat)} {tag ajP:Nat} {res:Res} {outs:List Out}
 (hc:C h args=some (res,outs)) (hg:aqk ((mk A B).get g) h caps) (hsz:(ats.size.beq as.size&&ark nt dst)=true) (hK:ajv P cfg h 0 (ats.toList++caps.map fun _=>0)=pk) (hx:(as.toList.map (mk A B).get)++(caps.map fun r=>SV.v false [r])=xs)
 (hp:am4 (mk A B) pk xs=some (pre,st1)) (hs:avc st1 pk xs pre=some ⟨args,bor,aj9,tag,ajP⟩) (hov:(overlap bor (aj9.map (·.1))||apX (aj9.map (·.1)))=false)
 (hb:aj7 st1 ajP aj9 outs=some st2) (hu:st2.unpack dst (arP (!bor.isEmpty) tag ajP) res=some X) (hfr:(cfg.fresh h dst||cfg.unf h dst)=false):
 aiD P cfg C nt ⟨dst,.call ⟨.value g,as,ats⟩,ty,pos,aft,gd⟩ (mk A B)=some X:=by
 have hlen:ats.toList.length=(as.toList.map (mk A B).get).length:=by
  simp only [Bool.and_eq_true] at hsz
  have:=Nat.eq_of_beq_eq_true hsz.1
  simpa using this
 have aCP:ats.toList.zip (as.toList.map (mk A B).get)++(caps.map fun r=>((0:TypeId),SV.v false [r]))=(ats.toList++caps.map fun _=>0).zip xs:=by
  rw [←hx,List.zip_append hlen,awo]
 have hlen2:(ats.toList++caps.map fun _=>(0:TypeId)).length=xs.length:=by
  rw [←hx]
  simp only [List.length_append,hlen,List.length_map]
 have hev:aiD P cfg C nt ⟨dst,.call ⟨.value g,as,ats⟩,ty,pos,aft,gd⟩ (mk A B)=(mk A B).call P cfg C dst h (ats.toList.zip (as.toList.map (mk A B).get)++(caps.map fun r=>((0:TypeId),SV.v false [r]))):=by
  rcases hg with hg | ⟨t,cs,hg,rfl⟩
  ·simp only [aiD,hg,hsz,if_true]
  ·simp only [aiD,hg,hsz,if_true,List.map_map]
   rfl
 rw [hev,aCP]
 unfold St.call
 refine aDL ?_
 unfold St.al5
 rw [aq6 h _ _ 0 _ hlen2,hK,hp]
 simp only [Option.bind_some]
 rw [ar5 h _ _ _ _ 0 hlen2,hK,hs]
 obtain ⟨hf1,hf2⟩:=Bool.or_eq_false_iff.1 hfr
 simp only [Option.bind_some,hov,hf1,hf2,Bool.false_and,Bool.false_eq_true,if_false,hc,hb,hu]
theorem auD {d:Nat} {mt:Nat→Option Nat} {res:Res} (hnp:aCO res=false):
 st.unpack (some d) mt res=(anL d (st.alW d) mt res []).map (fun q=>(st.aoO d q.2).aiR d (aqJ q.1)):=by
 refine aq5 fun ag cs e=>?_
 subst e
 cases hnp
theorem oCa {g:Operand} {h:FuncId} {caps:List RV} {as:Array Operand} {ats:Array TypeId} {pk:List (PM×List (Option Nat))} {xs:List SV} {pre:List (Option Arg)} {args:List Arg} {bor:List Nat} {aj9:List (Nat×Nat×Nat)} {tag ajP:Nat} {res:Res} {outs:List Out} {vs:List (Bool×List RV)} {v:SV}
 (hc:C h args=some (res,outs)) (hg:aqk ((mk A B).get g) h caps) (hsz:(ats.size.beq as.size&&ark nt (some d))=true) (hK:ajv P cfg h 0 (ats.toList++caps.map fun _=>0)=pk) (hx:(as.toList.map (mk A B).get)++(caps.map fun r=>SV.v false [r])=xs)
 (hp:am4 (mk A B) pk xs=some (pre,mk A1 B1)) (hs:avc (mk A1 B1) pk xs pre=some ⟨args,bor,aj9,tag,ajP⟩) (hov:(overlap bor (aj9.map (·.1))||apX (aj9.map (·.1)))=false)
 (hb:aj7 (mk A1 B1) ajP aj9 outs=some (mk A2 B2)) (hnp:aCO res=false) (hi:anL d (ajW B2 d).2 (arP (!bor.isEmpty) tag ajP) res []=some (vs,[])) (hv:aqJ vs=v) (hfr:(cfg.fresh h (some d)||cfg.unf h (some d))=false:=by exact rfl):
 aiD P cfg C nt ⟨some d,.call ⟨.value g,as,ats⟩,ty,pos,aft,gd⟩ (mk A B)=some (mk ((d,v)::A2) B2):=by
 refine az0 hc hg hsz hK hx hp hs hov hb ?_ hfr
 rw [auD hnp]
 have e:(mk A2 B2).alW d=(ajW B2 d).2:=by
  unfold St.alW ajW
  have e:(mk A2 B2).L d=look none B2 d:=rfl
  rw [e]
  cases look none B2 d<;>rfl
 rw [e,hi]
 subst hv
 rfl
theorem oCr {g:Operand} {h:FuncId} {caps:List RV} {as:Array Operand} {ats:Array TypeId} {pk:List (PM×List (Option Nat))} {xs:List SV} {pre:List (Option Arg)} {args:List Arg} {bor:List Nat} {aj9:List (Nat×Nat×Nat)} {tag ajP:Nat} {res:Res} {outs:List Out} {vs:List (Bool×List RV)} {v:SV} {c:CV} {cs:List CV}
 (hc:C h args=some (res,outs)) (hg:aqk ((mk A B).get g) h caps) (hsz:(ats.size.beq as.size&&ark nt (some d))=true) (hK:ajv P cfg h 0 (ats.toList++caps.map fun _=>0)=pk) (hx:(as.toList.map (mk A B).get)++(caps.map fun r=>SV.v false [r])=xs)
 (hp:am4 (mk A B) pk xs=some (pre,mk A1 B1)) (hs:avc (mk A1 B1) pk xs pre=some ⟨args,bor,aj9,tag,ajP⟩) (hov:(overlap bor (aj9.map (·.1))||apX (aj9.map (·.1)))=false)
 (hb:aj7 (mk A1 B1) ajP aj9 outs=some (mk A2 B2)) (hnp:aCO res=false) (hi:anL d (ajW B2 d).2 (arP (!bor.isEmpty) tag ajP) res []=some (vs,c::cs)) (hv:aqJ vs=v) (hfr:(cfg.fresh h (some d)||cfg.unf h (some d))=false:=by exact rfl):
 aiD P cfg C nt ⟨some d,.call ⟨.value g,as,ats⟩,ty,pos,aft,gd⟩ (mk A B)=some (mk ((d,v)::A2) ((d,some (akG (ajW B2 d) false false (c::cs)))::B2)):=by
 refine az0 hc hg hsz hK hx hp hs hov hb ?_ hfr
 rw [auD hnp]
 have e:(mk A2 B2).alW d=(ajW B2 d).2:=by
  unfold St.alW ajW
  have e:(mk A2 B2).L d=look none B2 d:=rfl
  rw [e]
  cases look none B2 d<;>rfl
 rw [e,hi]
 subst hv
 simp only [Option.map_some,St.aoO,aoa]
 rfl
theorem az1 {g:Operand} {h:FuncId} {caps:List RV} {as:Array Operand} {ats:Array TypeId} {pk:List (PM×List (Option Nat))} {xs:List SV} {pre:List (Option Arg)} {args:List Arg} {bor:List Nat} {aj9:List (Nat×Nat×Nat)} {tag ajP:Nat} {res:Res} {outs:List Out} {vs:List (Bool×List RV)} {v:SV}
 (hc:C h args=some (res,outs)) (hg:aqk ((mk A B).get g) h caps) (hsz:(ats.size.beq as.size&&ark nt (some d))=true) (hK:ajv P cfg h 0 (ats.toList++caps.map fun _=>0)=pk) (hx:(as.toList.map (mk A B).get)++(caps.map fun r=>SV.v false [r])=xs)
 (hp:am4 (mk A B) pk xs=some (pre,mk A1 B1)) (hs:avc (mk A1 B1) pk xs pre=some ⟨args,bor,aj9,tag,ajP⟩) (hov:(overlap bor (aj9.map (·.1))||apX (aj9.map (·.1)))=false)
 (hi:ao5 res=some vs) (hv:aqJ vs=v) (hun:cfg.unf h (some d)=false) (hfr:(cfg.fresh h (some d)&&args.all Arg.at7)=true):
 aiD P cfg C nt ⟨some d,.call ⟨.value g,as,ats⟩,ty,pos,aft,gd⟩ (mk A B)=some (mk ((d,v)::A1) B1):=by
 have hlen:ats.toList.length=(as.toList.map (mk A B).get).length:=by
  simp only [Bool.and_eq_true] at hsz
  have:=Nat.eq_of_beq_eq_true hsz.1
  simpa using this
 have aCP:ats.toList.zip (as.toList.map (mk A B).get)++(caps.map fun r=>((0:TypeId),SV.v false [r]))=(ats.toList++caps.map fun _=>0).zip xs:=by
  rw [←hx,List.zip_append hlen,awo]
 have hlen2:(ats.toList++caps.map fun _=>(0:TypeId)).length=xs.length:=by
  rw [←hx]
  simp only [List.length_append,hlen,List.length_map]
 have hev:aiD P cfg C nt ⟨some d,.call ⟨.value g,as,ats⟩,ty,pos,aft,gd⟩ (mk A B)=(mk A B).call P cfg C (some d) h (ats.toList.zip (as.toList.map (mk A B).get)++(caps.map fun r=>((0:TypeId),SV.v false [r]))):=by
  rcases hg with hg | ⟨t,cs,hg,rfl⟩
  ·simp only [aiD,hg,hsz,if_true]
  ·simp only [aiD,hg,hsz,if_true,List.map_map]
   rfl
 rw [hev,aCP]
 unfold St.call
 refine aDL ?_
 unfold St.al5
 rw [aq6 h _ _ 0 _ hlen2,hK,hp]
 simp only [Option.bind_some]
 rw [ar5 h _ _ _ _ 0 hlen2,hK,hs]
 simp only [Option.bind_some,hov,hun,Bool.false_and,hfr,Bool.false_eq_true,if_false,if_true,hc,hi,hv,Option.map_some]
 rfl
theorem oCF {g:Operand} {h:FuncId} {caps:List RV} {as:Array Operand} {ats:Array TypeId} {pk:List (PM×List (Option Nat))} {xs:List SV} {pre:List (Option Arg)} {args:List Arg} {bor:List Nat} {aj9:List (Nat×Nat×Nat)} {tag ajP:Nat} {res:Res} {outs:List Out} {vs:List (Bool×List RV)} {v:SV}
 (hc:C h args=some (res,outs)) (hg:aqk ((mk A B).get g) h caps) (hsz:(ats.size.beq as.size&&ark nt (some d))=true) (hK:ajv P cfg h 0 (ats.toList++caps.map fun _=>0)=pk) (hx:(as.toList.map (mk A B).get)++(caps.map fun r=>SV.v false [r])=xs)
 (hp:am4 (mk A B) pk xs=some (pre,mk A1 B1)) (hs:avc (mk A1 B1) pk xs pre=some ⟨args,bor,aj9,tag,ajP⟩) (hov:(overlap bor (aj9.map (·.1))||apX (aj9.map (·.1)))=false)
 (hi:ao5 res=some vs) (hv:aqJ vs=v) (hfr:cfg.fresh h (some d)=true:=by exact rfl) (hun:cfg.unf h (some d)=false:=by exact rfl) (hal:args.all Arg.at7=true:=by exact rfl):
 aiD P cfg C nt ⟨some d,.call ⟨.value g,as,ats⟩,ty,pos,aft,gd⟩ (mk A B)=some (mk ((d,v)::A1) B1):=
 az1 hc hg hsz hK hx hp hs hov hi hv hun (by rw [hfr,hal];rfl)
theorem aE4 {ks:List (Option Nat)} {o s c:Nat} {ob:Obj} {t:Nat} {a:AV} (hx:look .alD A d= .v false [.own o s c]) (hL:look none B o=some ob) (hc:ob.cs[c]?=some ⟨.sh,s,t,a⟩):
 (mk A B).amv ks d=mk ((d,.v false [.im t a])::A) ((o,some (ob.aiI c .imm))::B):=by
 have e:(mk A B).sl d=look .alD A d:=rfl
 simp only [St.amv,e,hx,St.ap2,St.auR,St.fix,St.view,St.freeze,akt hL hc rfl,Option.bind_some,Option.map_some]
 rfl
theorem dN {i:Nat} (hz:(cfg.fc f).frz=[]) (hi:ops[i]?=some ⟨dst,op,ty,pos,aft,none⟩) (h:aiD P cfg C nt ⟨dst,op,ty,pos,aft,none⟩ st=some st1):alE P cfg C f nt ops i st=some st1:=by
 unfold alE
 rw [hi]
 simp only [h,Option.map_some,hz,List.any_nil,cond]
 cases dst<;>rfl
theorem dT {i j t dj:Nat} {want v:Bool} (hz:(cfg.fc f).frz=[]) (hi:ops[i]?=some ⟨dst,op,ty,pos,aft,some (j,want)⟩) (hj:(ops[j]?).bind (·.dst)=some dj) (hb:st.sl dj= .v false [.im t (.sc (.bool v))]) (hv:v=want) (h:aiD P cfg C nt ⟨dst,op,ty,pos,aft,some (j,want)⟩ st=some st1):alE P cfg C f nt ops i st=some st1:=by
 have hy:yields ops st j=some (some want):=by
  unfold yields
  rw [hj]
  simp only [hb,SV.bool?,hv,Option.map_some]
 unfold alE
 rw [hi]
 simp only [hy,Option.bind_some,if_true,h,Option.map_some,hz,List.any_nil,cond]
 cases dst<;>rfl
theorem dF {i j t dj:Nat} {want v:Bool} (hi:ops[i]?=some ⟨some d,op,ty,pos,aft,some (j,want)⟩) (hj:(ops[j]?).bind (·.dst)=some dj) (hb:(mk A B).sl dj= .v false [.im t (.sc (.bool v))]) (hv:v=!want) (hd:Nat.blt d nt=true):alE P cfg C f nt ops i (mk A B)=some (mk ((d,.tup [])::A) B):=by
 have hy:yields ops (mk A B) j=some (some (!want)):=by
  unfold yields
  rw [hj]
  have hb:look .alD A dj= .v false [.im t (.sc (.bool v))]:=hb
  simp only [hb,SV.bool?,hv,Option.map_some]
 have hne:¬(some (!want)=some want):=by cases want<;>simp
 unfold alE
 rw [hi]
 simp only [hy,Option.bind_some,if_neg hne,hd,if_true]
 rfl
theorem dU {i j dj:Nat} {want:Bool} (hi:ops[i]?=some ⟨some d,op,ty,pos,aft,some (j,want)⟩) (hj:(ops[j]?).bind (·.dst)=some dj) (hb:(mk A B).sl dj= .tup []) (hd:Nat.blt d nt=true):alE P cfg C f nt ops i (mk A B)=some (mk ((d,.tup [])::A) B):=by
 have hy:yields ops (mk A B) j=some none:=by
  unfold yields
  rw [hj]
  have hb:look .alD A dj= .tup []:=hb
  simp only [hb]
 have hne:¬((none:Option Bool)=some want):=by simp
 unfold alE
 rw [hi]
 simp only [hy,Option.bind_some,if_neg hne,hd,if_true]
 rfl
theorem sD {k:Option (List Nat×List Nat)} {κ:List (List Nat×List Nat)} (h:st.amZ k=X):aj8 P cfg C f nt ops k κ .done st=some X:=by rw [←h];rfl
theorem sT {k:Option (List Nat×List Nat)} {κ:List (List Nat×List Nat)} {i:Nat} {ws us:List Nat} {t:Sch} (hok:apz cfg f ops us i st=true) (h:alE P cfg C f nt ops i st=some st1) (ht:aj8 P cfg C f nt ops k κ t st1=some X):aj8 P cfg C f nt ops k κ (.first i ws us t) st=some X:=by
 simp only [aj8,hok,if_true,h,Option.bind_some,ht]
theorem sK {k:Option (List Nat×List Nat)} {κ:List (List Nat×List Nat)} {i:Nat} {ws us O:List Nat} {t:Sch} (hok:apz cfg f ops us i st=false) (hf:aog (cfg.fc f).frz ops.toList=true) (hO:arQ ops i st=O) (h:alE P cfg C f nt ops i st=some st1) (ht:aj8 P cfg C f nt ops k ((us,O)::κ) t st1=some X):aj8 P cfg C f nt ops k κ (.first i ws us t) st=some X:=by
 subst hO
 simp only [aj8,hok,Bool.false_eq_true,if_false,hf,if_true,h,Option.bind_some,ht]
theorem sF {k:Option (List Nat×List Nat)} {κ:List (List Nat×List Nat)} {i:Nat} {t r:Sch} (h:alE P cfg C f nt ops i st=some st1) (hk:kOK κ i st st1) (ht:aj8 P cfg C f nt ops k κ t st1=some X) (hr:aj8 P cfg C f nt ops k κ r st=some X):aj8 P cfg C f nt ops k κ (.fork i t r) st=some X:=by
 simp only [aj8,h,Option.bind_some,ht,hr,or_true,hk,and_self,if_true]
theorem sS {k:Option (List Nat×List Nat)} {κ:List (List Nat×List Nat)} {i:Nat} {t:Sch} (h:alE P cfg C f nt ops i st=some st1) (hk:kOK κ i st st1) (ht:aj8 P cfg C f nt ops k κ t st1=some X):aj8 P cfg C f nt ops k κ (.fork i t .stop) st=some X:=by
 simp only [aj8,h,Option.bind_some,ht,Sch.ay9,true_or,hk,and_self,if_true]
theorem kN {κ:List (List Nat×List Nat)} {us O:List Nat} {i:Nat} {s s':St} (h:us.contains i=false) (hr:kOK κ i s s'):kOK ((us,O)::κ) i s s':=⟨(fun hu=>by rw [h] at hu;cases hu),hr⟩
theorem kY {κ:List (List Nat×List Nat)} {us O:List Nat} {i:Nat} {s s':St} (h:axG s s' O) (hr:kOK κ i s s'):kOK ((us,O)::κ) i s s':=⟨fun _=>h,hr⟩
end
end Go.Sim
