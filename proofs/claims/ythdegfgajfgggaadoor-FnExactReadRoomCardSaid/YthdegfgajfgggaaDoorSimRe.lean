/- Calls, what a variable that is made immutable leaves, regions of many orders: one rule for each shape. Conditions: none. -/
import Derived.Test.YthdegfgajfgggaaDoorSimRd
namespace Go.Sim
open Go.Pw
set_option linter.unusedSimpArgs false
set_option linter.unusedVariables false
def isPt:Res→Bool
 | [(false,[.pt _ _])]=>true
 | _=>false
noncomputable section
variable {P:Program} {cfg:Cfg} {C:CallF} {f nt:Nat} {ops:Array Oper} {l:List Oper} {st st1 st2 X:St} {A A' A1 A2:List (Nat×SV)} {B B' B1 B2:List (Nat×Option Obj)}
variable {d:Nat} {op:Op} {dst:Option Tmp} {ty:TypeId} {pos:String} {aft:Array Edge} {gd:Option (Nat×Bool)}
theorem pp0 {xs:List SV}:prepL (mk A B) [] xs=some ([],mk A B):=by cases xs<;>rfl
theorem ppC {m:PM} {ks:List (Option Nat)} {pk:List (PM×List (Option Nat))} {x:SV} {xs:List SV} {pre:List (Option Arg)} (h0:(mk A B).prep m ks x=some (none,mk A B)) (h:prepL (mk A B) pk xs=some (pre,mk A' B')):
 prepL (mk A B) ((m,ks)::pk) (x::xs)=some (none::pre,mk A' B'):=by
 simp only [prepL,h0,Option.bind_some,h,Option.map_some]
theorem pb0 {t:Nat}:putBack (mk A B) t [] []=some (mk A B):=rfl
theorem zip_caps (caps:List RV):(caps.map fun r=>((0:TypeId),SV.v false [r]))=(caps.map fun _=>(0:TypeId)).zip (caps.map fun r=>SV.v false [r]):=by
 induction caps with
 | nil=>rfl
 | cons c caps ih=>simp only [List.map_cons,List.zip_cons_cons,ih]
def CalleeIs (v:SV) (h:FuncId) (caps:List RV):Prop:=v= .fn h caps∨∃t cs,v= .v false [.im t (.clo h cs)]∧caps=cs.map (RV.im t)
theorem oC_gen {g:Operand} {h:FuncId} {caps:List RV} {as:Array Operand} {ats:Array TypeId} {pk:List (PM×List (Option Nat))} {xs:List SV} {pre:List (Option Arg)} {args:List Arg} {bor:List Nat} {lent:List (Nat×Nat×Nat)} {tag iotag:Nat} {res:Res} {outs:List Out}
 (hc:C h args=some (res,outs)) (hg:CalleeIs ((mk A B).get g) h caps) (hsz:(ats.size.beq as.size&&dstOK nt dst)=true) (hK:callK P cfg h 0 (ats.toList++caps.map fun _=>0)=pk) (hx:(as.toList.map (mk A B).get)++(caps.map fun r=>SV.v false [r])=xs)
 (hp:prepL (mk A B) pk xs=some (pre,st1)) (hs:seeL st1 pk xs pre=some ⟨args,bor,lent,tag,iotag⟩) (hov:(overlap bor (lent.map (·.1))||dupl (lent.map (·.1)))=false)
 (hb:putBack st1 iotag lent outs=some st2) (hu:st2.unpack dst (mapTag (!bor.isEmpty) tag iotag) res=some X):
 evOp P cfg C nt ⟨dst,.call ⟨.value g,as,ats⟩,ty,pos,aft,gd⟩ (mk A B)=some X:=by
 have hlen:ats.toList.length=(as.toList.map (mk A B).get).length:=by
  simp only [Bool.and_eq_true] at hsz
  have:=Nat.eq_of_beq_eq_true hsz.1
  simpa using this
 have zip1:ats.toList.zip (as.toList.map (mk A B).get)++(caps.map fun r=>((0:TypeId),SV.v false [r]))=(ats.toList++caps.map fun _=>0).zip xs:=by
  rw [←hx,List.zip_append hlen,zip_caps]
 have hlen2:(ats.toList++caps.map fun _=>(0:TypeId)).length=xs.length:=by
  rw [←hx]
  simp only [List.length_append,hlen,List.length_map]
 have hev:evOp P cfg C nt ⟨dst,.call ⟨.value g,as,ats⟩,ty,pos,aft,gd⟩ (mk A B)=(mk A B).call P cfg C dst h (ats.toList.zip (as.toList.map (mk A B).get)++(caps.map fun r=>((0:TypeId),SV.v false [r]))):=by
  rcases hg with hg | ⟨t,cs,hg,rfl⟩
  ·simp only [evOp,hg,hsz,if_true]
  ·simp only [evOp,hg,hsz,if_true,List.map_map]
   rfl
 rw [hev,zip1]
 unfold St.call
 rw [prepAll_eq h _ _ 0 _ hlen2,hK,hp]
 simp only [Option.bind_some]
 rw [seeAll_eq h _ _ _ _ 0 hlen2,hK,hs]
 simp only [Option.bind_some,hov,Bool.false_eq_true,if_false,hc,hb,hu]
theorem unpack_eq {d:Nat} {mt:Nat→Option Nat} {res:Res} (hnp:isPt res=false):
 st.unpack (some d) mt res=(compsIn d (st.nextStamp d) mt res []).map (fun q=>(st.newRows d q.2).setSl d (resSV q.1)):=by
 refine unpack_gen fun ag cs e=>?_
 subst e
 cases hnp
theorem oCa {g:Operand} {h:FuncId} {caps:List RV} {as:Array Operand} {ats:Array TypeId} {pk:List (PM×List (Option Nat))} {xs:List SV} {pre:List (Option Arg)} {args:List Arg} {bor:List Nat} {lent:List (Nat×Nat×Nat)} {tag iotag:Nat} {res:Res} {outs:List Out} {vs:List (Bool×List RV)} {v:SV}
 (hc:C h args=some (res,outs)) (hg:CalleeIs ((mk A B).get g) h caps) (hsz:(ats.size.beq as.size&&dstOK nt (some d))=true) (hK:callK P cfg h 0 (ats.toList++caps.map fun _=>0)=pk) (hx:(as.toList.map (mk A B).get)++(caps.map fun r=>SV.v false [r])=xs)
 (hp:prepL (mk A B) pk xs=some (pre,mk A1 B1)) (hs:seeL (mk A1 B1) pk xs pre=some ⟨args,bor,lent,tag,iotag⟩) (hov:(overlap bor (lent.map (·.1))||dupl (lent.map (·.1)))=false)
 (hb:putBack (mk A1 B1) iotag lent outs=some (mk A2 B2)) (hnp:isPt res=false) (hi:compsIn d (newGS B2 d).2 (mapTag (!bor.isEmpty) tag iotag) res []=some (vs,[])) (hv:resSV vs=v):
 evOp P cfg C nt ⟨some d,.call ⟨.value g,as,ats⟩,ty,pos,aft,gd⟩ (mk A B)=some (mk ((d,v)::A2) B2):=by
 refine oC_gen hc hg hsz hK hx hp hs hov hb ?_
 rw [unpack_eq hnp]
 have e:(mk A2 B2).nextStamp d=(newGS B2 d).2:=by
  unfold St.nextStamp newGS
  have e:(mk A2 B2).L d=look none B2 d:=rfl
  rw [e]
  cases look none B2 d<;>rfl
 rw [e,hi]
 subst hv
 rfl
theorem oCr {g:Operand} {h:FuncId} {caps:List RV} {as:Array Operand} {ats:Array TypeId} {pk:List (PM×List (Option Nat))} {xs:List SV} {pre:List (Option Arg)} {args:List Arg} {bor:List Nat} {lent:List (Nat×Nat×Nat)} {tag iotag:Nat} {res:Res} {outs:List Out} {vs:List (Bool×List RV)} {v:SV} {c:CV} {cs:List CV}
 (hc:C h args=some (res,outs)) (hg:CalleeIs ((mk A B).get g) h caps) (hsz:(ats.size.beq as.size&&dstOK nt (some d))=true) (hK:callK P cfg h 0 (ats.toList++caps.map fun _=>0)=pk) (hx:(as.toList.map (mk A B).get)++(caps.map fun r=>SV.v false [r])=xs)
 (hp:prepL (mk A B) pk xs=some (pre,mk A1 B1)) (hs:seeL (mk A1 B1) pk xs pre=some ⟨args,bor,lent,tag,iotag⟩) (hov:(overlap bor (lent.map (·.1))||dupl (lent.map (·.1)))=false)
 (hb:putBack (mk A1 B1) iotag lent outs=some (mk A2 B2)) (hnp:isPt res=false) (hi:compsIn d (newGS B2 d).2 (mapTag (!bor.isEmpty) tag iotag) res []=some (vs,c::cs)) (hv:resSV vs=v):
 evOp P cfg C nt ⟨some d,.call ⟨.value g,as,ats⟩,ty,pos,aft,gd⟩ (mk A B)=some (mk ((d,v)::A2) ((d,some (newOb (newGS B2 d) false false (c::cs)))::B2)):=by
 refine oC_gen hc hg hsz hK hx hp hs hov hb ?_
 rw [unpack_eq hnp]
 have e:(mk A2 B2).nextStamp d=(newGS B2 d).2:=by
  unfold St.nextStamp newGS
  have e:(mk A2 B2).L d=look none B2 d:=rfl
  rw [e]
  cases look none B2 d<;>rfl
 rw [e,hi]
 subst hv
 simp only [Option.map_some,St.newRows,new_mk]
 rfl
theorem dN {i:Nat} (hz:(cfg.fc f).frz=[]) (hi:ops[i]?=some ⟨dst,op,ty,pos,aft,none⟩) (h:evOp P cfg C nt ⟨dst,op,ty,pos,aft,none⟩ st=some st1):evAt P cfg C f nt ops i st=some st1:=by
 unfold evAt
 rw [hi]
 simp only [h,Option.map_some,hz,List.any_nil,cond]
 cases dst<;>rfl
theorem sT {k:Option (List Nat×List Nat)} {κ:List (List Nat×List Nat)} {i:Nat} {ws us:List Nat} {t:Sch} (hok:firstOK cfg f ops us i st=true) (h:evAt P cfg C f nt ops i st=some st1) (ht:evSch P cfg C f nt ops k κ t st1=some X):evSch P cfg C f nt ops k κ (.first i ws us t) st=some X:=by
 simp only [evSch,hok,if_true,h,Option.bind_some,ht]
end
end Go.Sim
