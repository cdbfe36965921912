/- Calls, what a variable that is made immutable leaves, regions of many orders: one rule for each shape. Conditions: none. -/
import Derived.Test.YtmjgfdlefaackaaSimRd
namespace Go.Sim
open Go.Pw
set_option linter.unusedSimpArgs false
set_option linter.unusedVariables false
def TL:Res→Bool
 | [(false,[.pt _ _])]=>true
 | _=>false
noncomputable section
variable {P:Program} {cfg:Cfg} {C:o6} {f nt:Nat} {ops:Array Oper} {l:List Oper} {st st1 st2 X:St} {A A' A1 A2:List (Nat×SV)} {B B' B1 B2:List (Nat×Option Obj)}
variable {d:Nat} {op:Op} {dst:Option Tmp} {ty:TypeId} {pos:String} {aft:Array Edge} {gd:Option (Nat×Bool)}
theorem pp0 {xs:List SV}:qP (mk A B) [] xs=some ([],mk A B):=by cases xs<;>rfl
theorem ppC {m:PM} {ks:List (Option Nat)} {pk:List (PM×List (Option Nat))} {x:SV} {xs:List SV} {pre:List (Option Arg)} (h0:(mk A B).yC m ks x=some (none,mk A B)) (h:qP (mk A B) pk xs=some (pre,mk A' B')):
 qP (mk A B) ((m,ks)::pk) (x::xs)=some (none::pre,mk A' B'):=by
 simp only [qP,h0,Option.bind_some,h,Option.map_some]
theorem ppP {ms:List OM} {ks:List (Option Nat)} {pk:List (PM×List (Option Nat))} {o s:Nat} {ob:Obj} {xs:List SV} {pre:List (Option Arg)} (hL:look none B o=some ob) (hs:ob.gen=s) (hok:(ob.mem&&!ob.fz)=true)
 (h:qP (mk A ((o,some (ob.fZ (zf 0 ms)))::B)) pk xs=some (pre,mk A' B')):qP (mk A B) ((.ptr ms,ks)::pk) (.v false [.mp o s 0]::xs)=some (none::pre,mk A' B'):=by
 have e:(mk A B).obj o s=some ob:=by
  unfold St.obj
  have e:(mk A B).L o=look none B o:=rfl
  rw [e,hL]
  simp only [Option.bind_some,hs,Nat.beq_refl,cond]
 have e2:(mk A B).yC (.ptr ms) ks (.v false [.mp o s 0])=some (none,mk A ((o,some (ob.fZ (zf 0 ms)))::B)):=by
  simp only [St.yC,e,Option.bind_some,hok,if_true]
  rfl
 simp only [qP,e2,Option.bind_some,h,Option.map_some]
theorem ppM {ks:List (Option Nat)} {pk:List (PM×List (Option Nat))} {r:RV} {xs:List SV} {pre:List (Option Arg)} {sz:Nat} {es:List AV} (ht:(mk A B).take ((ks.head?.bind id).getD 0) r=some (⟨.sh,0,.row sz es⟩,mk A1 B1))
 (h:qP (mk A1 B1) pk xs=some (pre,mk A' B')):qP (mk A B) ((.mv,ks)::pk) (.v false [r]::xs)=some (some (.mv sz es)::pre,mk A' B'):=by
 have e2:(mk A B).yC .mv ks (.v false [r])=some (some (.mv sz es),mk A1 B1):=by
  simp only [St.yC,ht,Option.bind_some]
  rfl
 simp only [qP,e2,Option.bind_some,h,Option.map_some]
theorem take_nil {sz:Nat}:(mk A B).take sz .nil=some (⟨.sh,0,.row sz []⟩,mk A B):=rfl
theorem pb0 {t:Nat}:iy (mk A B) t [] []=some (mk A B):=rfl
theorem pbP {t o s c:Nat} {ls:List (Nat×Nat×Nat)} {ag:Bool} {cs:List (OM×AV)} {os:List Out} {ob:Obj} (hL:look none B o=some ob) (hs:ob.gen=s)
 (h:iy (mk A ((o,some {ob with ctr:=ob.ctr+1,cs:=cs.map fun x=>⟨x.1.get,ob.ctr+1,(match x.1 with | .imm=>aN t x.2 | _=>0),x.2⟩})::B)) t ls os=some (mk A' B')):iy (mk A B) t ((o,s,c)::ls) (.ptr ag cs::os)=some (mk A' B'):=by
 have e:(mk A B).obj o s=some ob:=by
  unfold St.obj
  have e:(mk A B).L o=look none B o:=rfl
  rw [e,hL]
  simp only [Option.bind_some,hs,Nat.beq_refl,cond]
 simp only [iy,e,Option.bind_some]
 exact h
theorem Oo (caps:List RV):(caps.map fun r=>((0:TypeId),SV.v false [r]))=(caps.map fun _=>(0:TypeId)).zip (caps.map fun r=>SV.v false [r]):=by
 induction caps with
 | nil=>rfl
 | cons c caps ih=>simp only [List.map_cons,List.zip_cons_cons,ih]
def zL (v:SV) (h:FuncId) (caps:List RV):Prop:=v= .fn h caps∨∃t cs,v= .v false [.im t (.clo h cs)]∧caps=cs.map (RV.im t)
theorem Jy {g:Operand} {h:FuncId} {caps:List RV} {as:Array Operand} {ats:Array TypeId} {pk:List (PM×List (Option Nat))} {xs:List SV} {pre:List (Option Arg)} {args:List Arg} {bor:List Nat} {fP:List (Nat×Nat×Nat)} {tag dW:Nat} {res:Res} {outs:List Out}
 (hc:C h args=some (res,outs)) (hg:zL ((mk A B).get g) h caps) (hsz:(ats.size.beq as.size&&Bi nt dst)=true) (hK:bW P cfg h 0 (ats.toList++caps.map fun _=>0)=pk) (hx:(as.toList.map (mk A B).get)++(caps.map fun r=>SV.v false [r])=xs)
 (hp:qP (mk A B) pk xs=some (pre,st1)) (hs:Iy st1 pk xs pre=some ⟨args,bor,fP,tag,dW⟩) (hov:(overlap bor (fP.map (·.1))||wX (fP.map (·.1)))=false)
 (hb:iy st1 dW fP outs=some st2) (hu:st2.unpack dst (yD (!bor.isEmpty) tag dW) res=some X) (hfr:(cfg.fresh h dst||cfg.unf h dst)=false):
 ah P cfg C nt ⟨dst,.call ⟨.value g,as,ats⟩,ty,pos,aft,gd⟩ (mk A B)=some X:=by
 have hlen:ats.toList.length=(as.toList.map (mk A B).get).length:=by
  simp only [Bool.and_eq_true] at hsz
  have:=Nat.eq_of_beq_eq_true hsz.1
  simpa using this
 have WA:ats.toList.zip (as.toList.map (mk A B).get)++(caps.map fun r=>((0:TypeId),SV.v false [r]))=(ats.toList++caps.map fun _=>0).zip xs:=by
  rw [←hx,List.zip_append hlen,Oo]
 have hlen2:(ats.toList++caps.map fun _=>(0:TypeId)).length=xs.length:=by
  rw [←hx]
  simp only [List.length_append,hlen,List.length_map]
 have hev:ah P cfg C nt ⟨dst,.call ⟨.value g,as,ats⟩,ty,pos,aft,gd⟩ (mk A B)=(mk A B).call P cfg C dst h (ats.toList.zip (as.toList.map (mk A B).get)++(caps.map fun r=>((0:TypeId),SV.v false [r]))):=by
  rcases hg with hg | ⟨t,cs,hg,rfl⟩
  ·simp only [ah,hg,hsz,if_true]
  ·simp only [ah,hg,hsz,if_true,List.map_map]
   rfl
 rw [hev,WA]
 unfold St.call
 refine Wx ?_
 unfold St.mM
 rw [DI h _ _ 0 _ hlen2,hK,hp]
 simp only [Option.bind_some]
 rw [Fe h _ _ _ _ 0 hlen2,hK,hs]
 obtain ⟨hf1,hf2⟩:=Bool.or_eq_false_iff.1 hfr
 simp only [Option.bind_some,hov,hf1,hf2,Bool.false_and,Bool.false_eq_true,if_false,hc,hb,hu]
theorem Fg {d:Nat} {mt:Nat→Option Nat} {res:Res} (hnp:TL res=false):
 st.unpack (some d) mt res=(qp d (st.kS d) mt res []).map (fun q=>(st.uk d q.2).aK d (Bj q.1)):=by
 refine yO fun ag cs e=>?_
 subst e
 cases hnp
theorem oCa {g:Operand} {h:FuncId} {caps:List RV} {as:Array Operand} {ats:Array TypeId} {pk:List (PM×List (Option Nat))} {xs:List SV} {pre:List (Option Arg)} {args:List Arg} {bor:List Nat} {fP:List (Nat×Nat×Nat)} {tag dW:Nat} {res:Res} {outs:List Out} {vs:List (Bool×List RV)} {v:SV}
 (hc:C h args=some (res,outs)) (hg:zL ((mk A B).get g) h caps) (hsz:(ats.size.beq as.size&&Bi nt (some d))=true) (hK:bW P cfg h 0 (ats.toList++caps.map fun _=>0)=pk) (hx:(as.toList.map (mk A B).get)++(caps.map fun r=>SV.v false [r])=xs)
 (hp:qP (mk A B) pk xs=some (pre,mk A1 B1)) (hs:Iy (mk A1 B1) pk xs pre=some ⟨args,bor,fP,tag,dW⟩) (hov:(overlap bor (fP.map (·.1))||wX (fP.map (·.1)))=false)
 (hb:iy (mk A1 B1) dW fP outs=some (mk A2 B2)) (hnp:TL res=false) (hi:qp d (dX B2 d).2 (yD (!bor.isEmpty) tag dW) res []=some (vs,[])) (hv:Bj vs=v) (hfr:(cfg.fresh h (some d)||cfg.unf h (some d))=false:=by exact rfl):
 ah P cfg C nt ⟨some d,.call ⟨.value g,as,ats⟩,ty,pos,aft,gd⟩ (mk A B)=some (mk ((d,v)::A2) B2):=by
 refine Jy hc hg hsz hK hx hp hs hov hb ?_ hfr
 rw [Fg hnp]
 have e:(mk A2 B2).kS d=(dX B2 d).2:=by
  unfold St.kS dX
  have e:(mk A2 B2).L d=look none B2 d:=rfl
  rw [e]
  cases look none B2 d<;>rfl
 rw [e,hi]
 subst hv
 rfl
theorem oCr {g:Operand} {h:FuncId} {caps:List RV} {as:Array Operand} {ats:Array TypeId} {pk:List (PM×List (Option Nat))} {xs:List SV} {pre:List (Option Arg)} {args:List Arg} {bor:List Nat} {fP:List (Nat×Nat×Nat)} {tag dW:Nat} {res:Res} {outs:List Out} {vs:List (Bool×List RV)} {v:SV} {c:CV} {cs:List CV}
 (hc:C h args=some (res,outs)) (hg:zL ((mk A B).get g) h caps) (hsz:(ats.size.beq as.size&&Bi nt (some d))=true) (hK:bW P cfg h 0 (ats.toList++caps.map fun _=>0)=pk) (hx:(as.toList.map (mk A B).get)++(caps.map fun r=>SV.v false [r])=xs)
 (hp:qP (mk A B) pk xs=some (pre,mk A1 B1)) (hs:Iy (mk A1 B1) pk xs pre=some ⟨args,bor,fP,tag,dW⟩) (hov:(overlap bor (fP.map (·.1))||wX (fP.map (·.1)))=false)
 (hb:iy (mk A1 B1) dW fP outs=some (mk A2 B2)) (hnp:TL res=false) (hi:qp d (dX B2 d).2 (yD (!bor.isEmpty) tag dW) res []=some (vs,c::cs)) (hv:Bj vs=v) (hfr:(cfg.fresh h (some d)||cfg.unf h (some d))=false:=by exact rfl):
 ah P cfg C nt ⟨some d,.call ⟨.value g,as,ats⟩,ty,pos,aft,gd⟩ (mk A B)=some (mk ((d,v)::A2) ((d,some (gW (dX B2 d) false false (c::cs)))::B2)):=by
 refine Jy hc hg hsz hK hx hp hs hov hb ?_ hfr
 rw [Fg hnp]
 have e:(mk A2 B2).kS d=(dX B2 d).2:=by
  unfold St.kS dX
  have e:(mk A2 B2).L d=look none B2 d:=rfl
  rw [e]
  cases look none B2 d<;>rfl
 rw [e,hi]
 subst hv
 simp only [Option.map_some,St.uk,pF]
 rfl
theorem oCp {g:Operand} {h:FuncId} {caps:List RV} {as:Array Operand} {ats:Array TypeId} {pk:List (PM×List (Option Nat))} {xs:List SV} {pre:List (Option Arg)} {args:List Arg} {bor:List Nat} {fP:List (Nat×Nat×Nat)} {tag dW:Nat} {outs:List Out} {ag:Bool} {cs cs':List CV}
 (hc:C h args=some ([(false,[.pt ag cs])],outs)) (hg:zL ((mk A B).get g) h caps) (hsz:(ats.size.beq as.size&&Bi nt (some d))=true) (hK:bW P cfg h 0 (ats.toList++caps.map fun _=>0)=pk) (hx:(as.toList.map (mk A B).get)++(caps.map fun r=>SV.v false [r])=xs)
 (hp:qP (mk A B) pk xs=some (pre,mk A1 B1)) (hs:Iy (mk A1 B1) pk xs pre=some ⟨args,bor,fP,tag,dW⟩) (hov:(overlap bor (fP.map (·.1))||wX (fP.map (·.1)))=false)
 (hb:iy (mk A1 B1) dW fP outs=some (mk A2 B2)) (hi:Ew (yD (!bor.isEmpty) tag dW) cs=some cs') (hfr:(cfg.fresh h (some d)||cfg.unf h (some d))=false:=by exact rfl):
 ah P cfg C nt ⟨some d,.call ⟨.value g,as,ats⟩,ty,pos,aft,gd⟩ (mk A B)=some (mk ((d,.v false [.mp d (dX B2 d).1 0])::A2) ((d,some (gW (dX B2 d) true ag cs'))::B2)):=by
 refine Jy hc hg hsz hK hx hp hs hov hb ?_ hfr
 simp only [St.unpack,hi,Option.map_some,pF]
 rfl
theorem Ql {ks:List (Option Nat)} {o s c:Nat} {ob:Obj} {t:Nat} {a:AV} (hx:look .jK A d= .v false [.own o s c]) (hL:look none B o=some ob) (hc:ob.cs[c]?=some ⟨.sh,s,t,a⟩):
 (mk A B).kX ks d=mk ((d,.v false [.im t a])::A) ((o,some (ob.aA c .imm))::B):=by
 have e:(mk A B).sl d=look .jK A d:=rfl
 simp only [St.kX,e,hx,St.wS,St.Eg,St.fix,St.view,St.freeze,jJ hL hc rfl,Option.bind_some,Option.map_some]
 rfl
theorem WB {ks:List (Option Nat)} {t:Nat} {a:AV} (hx:look .jK A d= .v false [.im t a]):
 (mk A B).kX ks d=mk ((d,.v false [.im (aN t a) a])::A) B:=by
 have e:(mk A B).sl d=look .jK A d:=rfl
 simp only [St.kX,e,hx,St.wS,St.Eg,St.fix,St.view,St.freeze,Option.bind_some,Option.map_some]
 rfl
theorem dN {i:Nat} (hz:(cfg.fc f).frz=[]) (hi:ops[i]?=some ⟨dst,op,ty,pos,aft,none⟩) (h:ah P cfg C nt ⟨dst,op,ty,pos,aft,none⟩ st=some st1):kK P cfg C f nt ops i st=some st1:=by
 unfold kK
 rw [hi]
 simp only [h,Option.map_some,hz,List.any_nil,cond]
 cases dst<;>rfl
theorem dT {i j t dj:Nat} {want v:Bool} (hz:(cfg.fc f).frz=[]) (hi:ops[i]?=some ⟨dst,op,ty,pos,aft,some (j,want)⟩) (hj:(ops[j]?).bind (·.dst)=some dj) (hb:st.sl dj= .v false [.im t (.sc (.bool v))]) (hv:v=want) (h:ah P cfg C nt ⟨dst,op,ty,pos,aft,some (j,want)⟩ st=some st1):kK P cfg C f nt ops i st=some st1:=by
 have hy:yields ops st j=some (some want):=by
  unfold yields
  rw [hj]
  simp only [hb,SV.bool?,hv,Option.map_some]
 unfold kK
 rw [hi]
 simp only [hy,Option.bind_some,if_true,h,Option.map_some,hz,List.any_nil,cond]
 cases dst<;>rfl
theorem dF {i j t dj:Nat} {want v:Bool} (hi:ops[i]?=some ⟨some d,op,ty,pos,aft,some (j,want)⟩) (hj:(ops[j]?).bind (·.dst)=some dj) (hb:(mk A B).sl dj= .v false [.im t (.sc (.bool v))]) (hv:v=!want) (hd:Nat.blt d nt=true):kK P cfg C f nt ops i (mk A B)=some (mk ((d,.tup [])::A) B):=by
 have hy:yields ops (mk A B) j=some (some (!want)):=by
  unfold yields
  rw [hj]
  have hb:look .jK A dj= .v false [.im t (.sc (.bool v))]:=hb
  simp only [hb,SV.bool?,hv,Option.map_some]
 have hne:¬(some (!want)=some want):=by cases want<;>simp
 unfold kK
 rw [hi]
 simp only [hy,Option.bind_some,if_neg hne,hd,if_true]
 rfl
theorem sD {k:Option (List Nat×List Nat)} {κ:List (List Nat×List Nat)} (h:st.nX k=X):eY P cfg C f nt ops k κ .done st=some X:=by rw [←h];rfl
theorem sT {k:Option (List Nat×List Nat)} {κ:List (List Nat×List Nat)} {i:Nat} {ws us:List Nat} {t:Sch} (hok:vT cfg f ops us i st=true) (h:kK P cfg C f nt ops i st=some st1) (ht:eY P cfg C f nt ops k κ t st1=some X):eY P cfg C f nt ops k κ (.first i ws us t) st=some X:=by
 simp only [eY,hok,if_true,h,Option.bind_some,ht]
theorem sK {k:Option (List Nat×List Nat)} {κ:List (List Nat×List Nat)} {i:Nat} {ws us O:List Nat} {t:Sch} (hok:vT cfg f ops us i st=false) (hf:rO (cfg.fc f).frz ops.toList=true) (hO:Ac ops i st=O) (h:kK P cfg C f nt ops i st=some st1) (ht:eY P cfg C f nt ops k ((us,O)::κ) t st1=some X):eY P cfg C f nt ops k κ (.first i ws us t) st=some X:=by
 subst hO
 simp only [eY,hok,Bool.false_eq_true,if_false,hf,if_true,h,Option.bind_some,ht]
theorem sF {k:Option (List Nat×List Nat)} {κ:List (List Nat×List Nat)} {i:Nat} {t r:Sch} (h:kK P cfg C f nt ops i st=some st1) (hk:kOK κ i st st1) (ht:eY P cfg C f nt ops k κ t st1=some X) (hr:eY P cfg C f nt ops k κ r st=some X):eY P cfg C f nt ops k κ (.fork i t r) st=some X:=by
 simp only [eY,h,Option.bind_some,ht,hr,or_true,hk,and_self,if_true]
theorem sS {k:Option (List Nat×List Nat)} {κ:List (List Nat×List Nat)} {i:Nat} {t:Sch} (h:kK P cfg C f nt ops i st=some st1) (hk:kOK κ i st st1) (ht:eY P cfg C f nt ops k κ t st1=some X):eY P cfg C f nt ops k κ (.fork i t .stop) st=some X:=by
 simp only [eY,h,Option.bind_some,ht,Sch.MS,true_or,hk,and_self,if_true]
theorem kN {κ:List (List Nat×List Nat)} {us O:List Nat} {i:Nat} {s s':St} (h:us.contains i=false) (hr:kOK κ i s s'):kOK ((us,O)::κ) i s s':=⟨(fun hu=>by rw [h] at hu;cases hu),hr⟩
theorem kY {κ:List (List Nat×List Nat)} {us O:List Nat} {i:Nat} {s s':St} (h:J3 s s' O) (hr:kOK κ i s s'):kOK ((us,O)::κ) i s s':=⟨fun _=>h,hr⟩
end
end Go.Sim
