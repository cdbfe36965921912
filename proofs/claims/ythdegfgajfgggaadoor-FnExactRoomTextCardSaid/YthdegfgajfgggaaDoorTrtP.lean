/- The plain law of FnExactRoomText. Conditions: none. -/
import Derived.Test.YthdegfgajfgggaaDoorTrtT
import Derived.Test.YthdegfgajfgggaaDoorSimPe
import Derived.Test.YthdegfgajfgggaaDoorSimPn
namespace Go.Pw
open Go.Sim (min2 max2)
set_option linter.unusedVariables false
set_option linter.unusedSimpArgs false
theorem within_eq (n a b:Int):impl_within n a b=some (decide (a≤n∧n≤b)):=by
 unfold impl_within
 rw [Bool.decide_and]
theorem in_eq (n a b:Int):spec_l00In n a b=some (decide (a≤n∧n≤b)):=by
 unfold spec_l00In
 rw [Bool.decide_and]
open Go.Lib (decDigits itoa)
def rdig (u:Nat):List Int:=(decDigits u).reverse.map fun b:UInt8=>(b.toNat:Int)
theorem dg_toNat {d:Nat} (h:d<10):((UInt8.ofNat (48+d)).toNat:Int)=48+(d:Int):=by
 have:(UInt8.ofNat (48+d)).toNat=48+d:=by
  rw [UInt8.toNat_ofNat']
  exact Nat.mod_eq_of_lt (by omega)
 omega
theorem rdig_lt {u:Nat} (h:u<10):rdig u=[48+(u:Int)]:=by
 unfold rdig
 rw [decDigits,dif_pos h]
 simp only [List.reverse_cons,List.reverse_nil,List.nil_append,List.map_cons,List.map_nil,dg_toNat h]
theorem rdig_ge {u:Nat} (h:¬u<10):rdig u=(48+((u % 10:Nat):Int))::rdig (u / 10):=by
 have e:decDigits u=decDigits (u / 10)++[UInt8.ofNat (48+u % 10)]:=by
  rw [decDigits,dif_neg h]
 unfold rdig
 rw [e,List.reverse_append]
 simp only [List.reverse_cons,List.reverse_nil,List.nil_append,List.singleton_append,List.map_cons,dg_toNat (Nat.mod_lt u (by omega))]
theorem dd_len:∀(k u:Nat),u<10 ^ (k+1)→(decDigits u).length≤k+1:=by
 intro k
 induction k with
 | zero=>
  intro u h
  rw [decDigits,dif_pos (by simpa using h)]
  exact Nat.le_refl _
 | succ k ih=>
  intro u h
  by_cases c:u<10
  ·rw [decDigits,dif_pos c]
   simp
  ·rw [decDigits,dif_neg c,List.length_append,List.length_singleton]
   have:u / 10<10 ^ (k+1):=by
    rw [Nat.div_lt_iff_lt_mul (by omega)]
    rw [Nat.pow_succ] at h
    exact h
   have:=ih _ this
   omega
theorem u8_wrap {d:Int} (h0:0≤d) (h1:d<10):IntKind.wrap .u8 (w64 (48+d))=48+d:=by
 rw [w64_id (by omega) (by omega)]
 have:d=0∨d=1∨d=2∨d=3∨d=4∨d=5∨d=6∨d=7∨d=8∨d=9:=by omega
 rcases this with rfl | rfl | rfl | rfl | rfl | rfl | rfl | rfl | rfl | rfl<;>decide
theorem md10 (m:Int):md m 10=some (m.tmod 10):=by unfold md;rw [if_neg (by decide)]
theorem dv10 (m:Int):dv .i64 m 10=some (w64 (m.tdiv 10)):=by unfold dv;rw [if_neg (by decide)]
theorem dec_loop:∀(k:Nat) (m:Int) (ds:List Int),m≠0→m.natAbs<10 ^ (k+1)→-9223372036854775808≤m→m≤9223372036854775807→ds.length+k≤100→loopO spec_l01Dec_l5 (m,ds)=some (ds++rdig m.natAbs):=by
 intro k
 induction k with
 | zero=>
  intro m ds h0 h1 h2 h3 h4
  have hu:m.natAbs<10:=by simpa using h1
  have st:spec_l01Dec_l5 (m,ds)=some (.inl (0,ds++[48+(m.natAbs:Int)])):=by
   unfold spec_l01Dec_l5 spec_l01Dec_k10
   simp only
   have e1:m.tmod 10=m:=by
    rcases Int.natAbs_eq m with e | e<;>rw [e]
    ·rw [Int.tmod_eq_emod_of_nonneg (by omega)];omega
    ·rw [Int.neg_tmod,Int.tmod_eq_emod_of_nonneg (by omega)];omega
   have e2:m.tdiv 10=0:=by
    rcases Int.natAbs_eq m with e | e<;>rw [e]
    ·rw [Int.tdiv_eq_ediv_of_nonneg (by omega)];omega
    ·rw [Int.neg_tdiv,Int.tdiv_eq_ediv_of_nonneg (by omega)];omega
   rw [if_pos h0,md10,Option.bind_some,e1,dv10,e2]
   by_cases c:m<0
   ·rw [if_pos c,w64_id (n:=0 - m) (by omega) (by omega),u8_wrap (by omega) (by omega),apdn (by rw [List.length_singleton];omega),show (48:Int)+(0 - m)=48+(m.natAbs:Int) by omega]
    rfl
   ·rw [if_neg c,u8_wrap (by omega) (by omega),apdn (by rw [List.length_singleton];omega),show (48:Int)+m=48+(m.natAbs:Int) by omega]
    rfl
  rw [loopO_next st,loopO_done (r:=ds++[48+(m.natAbs:Int)]) (by unfold spec_l01Dec_l5;simp),rdig_lt hu]
 | succ k ih=>
  intro m ds h0 h1 h2 h3 h4
  have hd:m.natAbs % 10<10:=Nat.mod_lt _ (by omega)
  have e1:(m<0→m.tmod 10=-((m.natAbs % 10:Nat):Int))∧(0≤m→m.tmod 10=((m.natAbs % 10:Nat):Int)):=by
   rcases Int.natAbs_eq m with e | e
   ·refine ⟨fun h=>by omega,fun _=>?_⟩
    rw [Int.tmod_eq_emod_of_nonneg (by omega)];omega
   ·refine ⟨fun _=>?_,fun h=>?_⟩
    ·rw [e,Int.neg_tmod,Int.tmod_eq_emod_of_nonneg (by omega)];omega
    ·rw [Int.tmod_eq_emod_of_nonneg h];omega
  have e2:(m<0→m.tdiv 10=-((m.natAbs / 10:Nat):Int))∧(0≤m→m.tdiv 10=((m.natAbs / 10:Nat):Int)):=by
   rcases Int.natAbs_eq m with e | e
   ·refine ⟨fun h=>by omega,fun _=>?_⟩
    rw [Int.tdiv_eq_ediv_of_nonneg (by omega)];omega
   ·refine ⟨fun _=>?_,fun h=>?_⟩
    ·rw [e,Int.neg_tdiv,Int.tdiv_eq_ediv_of_nonneg (by omega)];omega
    ·rw [Int.tdiv_eq_ediv_of_nonneg h];omega
  have hq:(m.tdiv 10).natAbs=m.natAbs / 10∧-9223372036854775808≤m.tdiv 10∧m.tdiv 10≤9223372036854775807:=by
   by_cases c:m<0
   ·rw [e2.1 c];omega
   ·rw [e2.2 (by omega)];omega
  have st:spec_l01Dec_l5 (m,ds)=some (.inl (m.tdiv 10,ds++[48+((m.natAbs % 10:Nat):Int)])):=by
   unfold spec_l01Dec_l5 spec_l01Dec_k10
   simp only
   rw [if_pos h0,md10,Option.bind_some,dv10,w64_id hq.2.1 hq.2.2]
   by_cases c:m<0
   ·rw [e1.1 c]
    by_cases z:m.natAbs % 10=0
    ·rw [z,if_neg (by omega),u8_wrap (by omega) (by omega),apdn (by rw [List.length_singleton];omega)]
     rfl
    ·rw [if_pos (by omega),w64_id (n:=0 - -((m.natAbs % 10:Nat):Int)) (by omega) (by omega),u8_wrap (by omega) (by omega),apdn (by rw [List.length_singleton];omega),show (0:Int) - -((m.natAbs % 10:Nat):Int)=((m.natAbs % 10:Nat):Int) by omega]
     rfl
   ·rw [e1.2 (by omega),if_neg (by omega),u8_wrap (by omega) (by omega),apdn (by rw [List.length_singleton];omega)]
    rfl
  rw [loopO_next st]
  by_cases c:m.natAbs<10
  ·have z:m.tdiv 10=0:=by
    have:=hq.1
    omega
   rw [z,loopO_done (r:=ds++[48+((m.natAbs % 10:Nat):Int)]) (by unfold spec_l01Dec_l5;simp),rdig_lt c,Nat.mod_eq_of_lt c]
  ·have h5:m.natAbs / 10<10 ^ (k+1):=by
    rw [Nat.div_lt_iff_lt_mul (by omega)]
    rw [Nat.pow_succ] at h1
    exact h1
   rw [ih (m.tdiv 10) (ds++[48+((m.natAbs % 10:Nat):Int)]) (by have:=hq.1;omega) (by rw [hq.1];exact h5) hq.2.1 hq.2.2 (by rw [List.length_append,List.length_singleton];omega),hq.1,rdig_ge c,List.append_assoc]
   rfl
theorem dec_rev (D:List Int) (hD:D.length≤1000):spec_l01Dec_k13 D=some (strOf D.reverse):=by
 unfold spec_l01Dec_k13
 have h0:(w64 ((D.length:Int) - 1),([]:List Int))=((D.length:Int) - 1 - ((0:Nat):Int),D.reverse.take 0):=by
  rw [w64_id (by omega) (by omega),List.take_zero]
  congr 1
  omega
 rw [h0]
 have e:loopO (spec_l01Dec_l15 D) ((D.length:Int) - 1 - ((0:Nat):Int),D.reverse.take 0)=some D.reverse:=by
  refine loopO_for (fun j:Nat=>((D.length:Int) - 1 - (j:Int),D.reverse.take j)) D.length (fun j hj=>?_) ?_
  ·have hr:j<D.reverse.length:=by rw [List.length_reverse];exact hj
   unfold spec_l01Dec_l15
   simp only
   rw [if_pos (by omega),show (D.length:Int) - 1 - (j:Int)=((D.length - 1 - j:Nat):Int) by omega,rd_lt (show D.length - 1 - j<D.length by omega),Option.bind_some,apdn (by rw [List.length_take,List.length_singleton];omega),Option.bind_some,w64_id (by omega) (by omega),List.take_succ_eq_append_getElem hr,List.getElem_reverse]
   congr 3
   omega
  ·unfold spec_l01Dec_l15
   simp only
   rw [if_neg (by omega),List.take_of_length_le (by rw [List.length_reverse];exact Nat.le_refl _)]
 rw [e]
 rfl
theorem dd_back (l:List UInt8):(l.map fun b:UInt8=>(b.toNat:Int)).map (fun n=>UInt8.ofNat n.toNat)=l:=by
 rw [List.map_map]
 conv=>rhs;rw [←List.map_id l]
 refine List.map_congr_left fun b _=>?_
 show UInt8.ofNat ((b.toNat:Int)).toNat=b
 rw [Int.toNat_natCast,UInt8.ofNat_toNat]
theorem dec_eq {n:Int} (h0:-9223372036854775808≤n) (h1:n≤9223372036854775807):spec_l01Dec n=some (dcm n):=by
 unfold spec_l01Dec
 by_cases c:n=0
 ·subst c
  rw [if_pos rfl]
  unfold dcm itoa
  rw [if_neg (by decide),show (0:Int).toNat=0 from rfl,decDigits,dif_pos (by decide)]
  rfl
 ·have hu:n.natAbs<10 ^ (18+1):=by
   have:(10:Nat) ^ (18+1)=10000000000000000000:=by decide
   rw [this]
   omega
  have hl:(rdig n.natAbs).length≤19:=by
   unfold rdig
   rw [List.length_map,List.length_reverse]
   exact dd_len 18 _ hu
  rw [if_neg c,dec_loop 18 n [] c hu h0 h1 (by simp),Option.bind_some,List.nil_append]
  have hb:(rdig n.natAbs).reverse=(decDigits n.natAbs).map fun b:UInt8=>(b.toNat:Int):=by
   unfold rdig
   rw [←List.map_reverse,List.reverse_reverse]
  by_cases c2:n<0
  ·rw [if_pos c2,apdn (by rw [List.length_singleton];omega),Option.bind_some,dec_rev _ (by rw [List.length_append,List.length_singleton];omega),List.reverse_append,hb]
   unfold dcm itoa strOf
   rw [if_pos c2,List.map_append,dd_back]
   rfl
  ·rw [if_neg c2,dec_rev _ (by omega),hb]
   unfold dcm itoa strOf
   rw [if_neg c2,dd_back,show n.toNat=n.natAbs by omega]
theorem dcm_size {n:Int} (h0:0≤n) (h1:n≤9223372036854775807):(dcm n).size≤19:=by
 have hu:n.toNat<10 ^ (18+1):=by
  have:(10:Nat) ^ (18+1)=10000000000000000000:=by decide
  rw [this]
  omega
 have:=dd_len 18 _ hu
 unfold dcm itoa
 rw [if_neg (by omega)]
 simpa [ByteArray.size] using this
theorem fmt_eq {n:Int} (h0:-9223372036854775808≤n) (h1:n≤9223372036854775807):fmtI n=some (dcm n):=by
 unfold fmtI
 rw [if_pos ⟨h0,h1⟩]
theorem law_RoomText (a:S_Room):laws_FnExactRoomText a=some true:=by
 unfold laws_FnExactRoomText laws_toRoom
 simp only [Option.bind_some]
 have key:∃r,spec_RoomText a=some r∧impl_RoomText a=some r:=by
  unfold spec_RoomText impl_RoomText spec_l30Room impl_ValidRoom
  simp only [within_eq,in_eq,Option.bind_some]
  by_cases c1:1≤a.Width∧a.Width≤20000
  ·by_cases c2:1≤a.Length∧a.Length≤20000
   ·have s1:=dcm_size (n:=a.Width) (by omega) (by omega)
    have s2:=dcm_size (n:=a.Length) (by omega) (by omega)
    have e1:(⟨#[120]⟩:ByteArray).size=1:=rfl
    have k1:=cat_some (a:=dcm a.Width) (b:=⟨#[120]⟩) (by omega)
    have e2:(dcm a.Width++(⟨#[120]⟩:ByteArray)).size=(dcm a.Width).size+1:=by rw [ByteArray.size_append];rfl
    have k2:=cat_some (a:=dcm a.Width++⟨#[120]⟩) (b:=dcm a.Length) (by omega)
    simp only [decide_eq_true c1,decide_eq_true c2,if_true,Option.bind_some,spec_l30Text,impl_Decimal,dec_eq (n:=a.Width) (by omega) (by omega),dec_eq (n:=a.Length) (by omega) (by omega),fmt_eq (n:=a.Width) (by omega) (by omega),fmt_eq (n:=a.Length) (by omega) (by omega),k1,k2]
    exact ⟨_,rfl,rfl⟩
   ·simp only [decide_eq_true c1,decide_eq_false c2,if_true,Option.bind_some]
    exact ⟨_,rfl,rfl⟩
  ·simp only [decide_eq_false c1]
   exact ⟨_,rfl,rfl⟩
 obtain ⟨r,r1,r2⟩:=key
 rw [r1,r2]
 simp
end Go.Pw
