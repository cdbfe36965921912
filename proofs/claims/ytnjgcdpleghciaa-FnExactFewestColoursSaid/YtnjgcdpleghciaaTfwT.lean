/- Plain functions that answer what the program's functions answer. Conditions: none; definitions alone. -/
import Derived.Test.YtnjgcdpleghciaaSimPw
import Derived.Test.YtnjgcdpleghciaaSimPt
namespace Go.Pw
open Go.Sim (min2 max2)
set_option linter.unusedVariables false
structure aiE where
 aku:Int
 High:Int
 Cells:(List Int)
structure aiL where
 near:(List (List Int))
 aiV:(List Int)
 most:Int
 nodes:Int
 budget:Int
structure aol where
 e0:Int
 e1:Int
 e2:Int
 e3:Int
structure aiP where
 near:(List (List Int))
 left:Int
noncomputable def amE (a_0:(List Int)) (ao0:Int):Option Int:=
 if (w64 (ao0 - (a_0.length:Int))) <0 then
  (some (-1))
  else (some (w64 (ao0 - (a_0.length:Int))))
noncomputable def amF (a_0:aiE) (ao0:Int):Option Int:=
 (amE a_0.Cells ao0).bind fun x8=>
   if x8<0 then
   (some (-1))
   else (some x8)
noncomputable def alx (a_0:(List Int)) (s:(Int×(List Int))):Option ((Int×(List Int)) ⊕ (List Int)):=
 match s with
  | (al0,akX)=>
  if al0< (a_0.length:Int) then
  ((rd a_0 al0).bind fun x18=>
  (rd akX al0).bind fun x20=>
  some (.inl ((w64 (al0+1)),(akX.set al0.toNat x18))))
  else (some (.inr akX))
noncomputable def amG (a_0:(List Int)):Option (List Int):=
 (mkl 8 (a_0.length:Int) 0).bind fun x7=>
   (aiM (alx a_0) (0,x7)).bind fun ajF=>
   some ajF
noncomputable def akU (a_0:aiE):Option aiE:=
 (amG a_0.Cells).bind fun x12=>
   some (⟨a_0.aku,a_0.High,x12⟩:aiE)
noncomputable def al9 (n_0:Int) (apk:Int) (anE:Int):Option Bool:=
 some ((decide (n_0≥apk))&&(decide (n_0≤anE)))
noncomputable def alF (a_0:Int) (b_1:Int):Option Int:=
 if a_0>b_1 then
  (some a_0)
  else (some b_1)
noncomputable def ama (ajR:(List Int)) (n_1:Int) (ajZ:Int):Option (Int ⊕ (Unit ⊕ Bool)):=
 if ajZ< (ajR.length:Int) then
  ((rd ajR ajZ).bind fun x14=>
  if x14=n_1 then
  (some (.inr (.inr true)))
  else (some (.inl (w64 (ajZ+1)))))
  else (some (.inr (.inl ())))
noncomputable def am5 (ajR:(List Int)) (n_1:Int):Option Bool:=
 (aiM (ama ajR n_1) 0).bind fun o=>match o with
   | (.inl _)=>(some false)
   | (.inr r2)=>(some r2)
noncomputable def alg (akV:Int) (t_0:aiE) (ar8:Int):Option (Int ⊕ (Unit ⊕ Int)):=
 if ar8≤akV then
  ((am5 t_0.Cells ar8).bind fun x43=>
  if x43=true then
  (some (.inl (w64 (ar8+1))))
  else (some (.inr (.inr (-1)))))
  else (some (.inr (.inl ())))
noncomputable def ajL (t_0:aiE) (s:(Int×Int)):Option ((Int×Int) ⊕ (Int ⊕ Int)):=
 match s with
  | (apl,al0)=>
  if al0< (t_0.Cells.length:Int) then
  ((rd t_0.Cells al0).bind fun x20=>
  (al9 x20 0 35).bind fun x22=>
  if x22=true then
  ((rd t_0.Cells al0).bind fun x30=>
  (alF apl x30).bind fun x32=>
  some (.inl (x32,(w64 (al0+1)))))
  else (some (.inr (.inr (-1)))))
  else (some (.inr (.inl apl)))
noncomputable def akc (t_0:aiE):Option Int:=
 (aiM (ajL t_0) ((-1),0)).bind fun o=>match o with
   | (.inl akV)=>((aiM (alg akV t_0) 0).bind fun o=>match o with
   | (.inl _)=>(some (w64 (akV+1)))
   | (.inr r2)=>(some r2))
   | (.inr r2)=>(some r2)
noncomputable def akW (t_0:aiE) (x_1:Int) (y_2:Int):Option Int:=
 (md y_2 t_0.High).bind fun x12=>
   (md (w64 (x12+t_0.High)) t_0.High).bind fun x22=>
   (md x_1 t_0.aku).bind fun x33=>
   (md (w64 (x33+t_0.aku)) t_0.aku).bind fun x43=>
   some (w64 ((w64 (x22*t_0.aku))+x43))
noncomputable def akA (t_0:aiE) (i_1:Int):Option (List Int):=
 (md i_1 t_0.aku).bind fun x12=>
   (dv .i64 i_1 t_0.aku).bind fun x18=>
   (akW t_0 (w64 (x12+1)) x18).bind fun x23=>
   (akW t_0 x12 (w64 (x18+1))).bind fun x28=>
   (akW t_0 (w64 (x12 - 1)) x18).bind fun x33=>
   (akW t_0 x12 (w64 (x18 - 1))).bind fun x38=>
   some ([x23,x28,x33,x38]:List Int)
noncomputable def ak6 (aln:Int) (anV:(List Int)):Option ((Int×(List Int)) ⊕ (List Int)):=
 some (.inl ((w64 (aln+1)),anV))
noncomputable def aj0 (k_1:Int) (t_0:aiE) (x48:(List Int)) (s:(Int×(List Int))):Option ((Int×(List Int)) ⊕ (List Int)):=
 match s with
  | (aln,alo)=>
  if aln< (x48.length:Int) then
  ((rd x48 aln).bind fun x61=>
  (rd t_0.Cells x61).bind fun x63=>
  (if x63=k_1 then
  ((rd x48 aln).bind fun x71=>
  (am5 alo x71).bind fun x73=>
  some (!x73))
  else (some false)).bind fun atx=>
  if atx=true then
  ((rd x48 aln).bind fun x79=>
  (apd 8 alo ([x79]:List Int)).bind fun x82=>
  ak6 aln x82)
  else (ak6 aln alo))
  else (some (.inr alo))
noncomputable def ajG (k_1:Int) (t_0:aiE) (s:(Int×(List Int))):Option ((Int×(List Int)) ⊕ (List Int)):=
 match s with
  | (anN,amb)=>
  if anN< (amb.length:Int) then
  ((rd amb anN).bind fun x46=>
  (akA t_0 x46).bind fun x48=>
  (aiM (aj0 k_1 t_0 x48) (0,amb)).bind fun anO=>
  some (.inl ((w64 (anN+1)),anO)))
  else (some (.inr amb))
noncomputable def alp (ajN:Int) (aoy:Int) (aqn:Int):Option ((Int×Int×Int) ⊕ (Int×Int)):=
 some (.inl (aoy,aqn,(w64 (ajN+1))))
noncomputable def alq (aly:Int) (ajN:Int) (anF:Int):Option ((Int×Int×Int) ⊕ (Int×Int)):=
 alp ajN anF (w64 (aly+1))
noncomputable def akH (k_1:Int) (t_0:aiE) (s:(Int×Int×Int)):Option ((Int×Int×Int) ⊕ (Int×Int)):=
 match s with
  | (alL,aly,ajN)=>
  if ajN< (t_0.Cells.length:Int) then
  ((rd t_0.Cells ajN).bind fun x26=>
  if x26=k_1 then
  (if alL<0 then
  (alq aly ajN ajN)
  else (alq aly ajN alL))
  else (alp ajN alL aly))
  else (some (.inr (alL,aly)))
noncomputable def ak7 (t_0:aiE) (k_1:Int):Option Bool:=
 (aiM (akH k_1 t_0) ((-1),0,0)).bind fun o=>match o with
   | (ams,ak8)=>
   (aiM (ajG k_1 t_0) (0,([ams]:List Int))).bind fun anP=>
   some ((anP.length:Int)==ak8)
noncomputable def akv (t_0:aiE) (x37:Int) (ar9:Int):Option (Int ⊕ (Unit ⊕ Bool)):=
 if ar9<x37 then
  ((ak7 t_0 ar9).bind fun x45=>
  if x45=true then
  (some (.inl (w64 (ar9+1))))
  else (some (.inr (.inr false))))
  else (some (.inr (.inl ())))
noncomputable def aoz (t_0:aiE):Option Bool:=
 (al9 t_0.aku 1 12).bind fun x9=>
   (if x9=true then
   ((al9 t_0.High 1 12).bind fun x16=>
   if x16=true then
   (some ((t_0.Cells.length:Int) != (w64 (t_0.aku*t_0.High))))
   else (some true))
   else (some true)).bind fun avj=>
   if avj=true then
   (some false)
   else ((akc t_0).bind fun x37=>
   (aiM (akv t_0 x37) 0).bind fun o=>match o with
   | (.inl _)=>(some (decide (x37>0)))
   | (.inr r2)=>(some r2))
noncomputable def alR (aoA:(List Int)):Option (List Int):=
 some aoA
noncomputable def ajX (ajN:Int) (ajR:(List Int)) (aoB:Bool) (aoC:(List Int)):Option ((Bool×Int×(List Int)) ⊕ (Bool×(List Int))):=
 (rd ajR ajN).bind fun x38=>
   (apd 8 aoC ([x38]:List Int)).bind fun x41=>
   some (.inl (aoB,(w64 (ajN+1)),x41))
noncomputable def ajp (ajR:(List Int)) (n_1:Int) (s:(Bool×Int×(List Int))):Option ((Bool×Int×(List Int)) ⊕ (Bool×(List Int))):=
 match s with
  | (am6,ajN,alX)=>
  if ajN< (ajR.length:Int) then
  ((if am6=true then
  (some false)
  else ((rd ajR ajN).bind fun x20=>
  some (decide (x20≥n_1)))).bind fun avk=>
  if avk=true then
  ((rd ajR ajN).bind fun x27=>
  if x27>n_1 then
  ((apd 8 alX ([n_1]:List Int)).bind fun x34=>
  ajX ajN ajR true x34)
  else (ajX ajN ajR true alX))
  else (ajX ajN ajR am6 alX))
  else (some (.inr (am6,alX)))
noncomputable def anW (ajR:(List Int)) (n_1:Int):Option (List Int):=
 (aiM (ajp ajR n_1) (false,0,([]:List Int))).bind fun o=>match o with
   | (am7,amc)=>
   if am7=true then
   (alR amc)
   else ((apd 8 amc ([n_1]:List Int)).bind fun x47=>
   alR x47)
noncomputable def alS (ank:Int) (apm:(List Int)):Option ((Int×(List Int)) ⊕ (List Int)):=
 some (.inl ((w64 (ank+1)),apm))
noncomputable def akL (anl:Int) (k_1:Int) (t_0:aiE) (x21:(List Int)) (s:(Int×(List Int))):Option ((Int×(List Int)) ⊕ (List Int)):=
 match s with
  | (ank,am8)=>
  if ank< (x21.length:Int) then
  ((rd t_0.Cells anl).bind fun x33=>
  (if x33=k_1 then
  ((rd x21 ank).bind fun x44=>
  (rd t_0.Cells x44).bind fun x46=>
  some (x46 != k_1))
  else (some false)).bind fun avl=>
  if avl=true then
  ((rd x21 ank).bind fun x58=>
  (rd t_0.Cells x58).bind fun x60=>
  (anW am8 x60).bind fun x62=>
  alS ank x62)
  else (alS ank am8))
  else (some (.inr am8))
noncomputable def akM (k_1:Int) (t_0:aiE) (s:(Int×(List Int))):Option ((Int×(List Int)) ⊕ (List Int)):=
 match s with
  | (anl,apn)=>
  if anl< (t_0.Cells.length:Int) then
  ((akA t_0 anl).bind fun x21=>
  (aiM (akL anl k_1 t_0 x21) (0,apn)).bind fun aoS=>
  some (.inl ((w64 (anl+1)),aoS)))
  else (some (.inr apn))
noncomputable def alM (t_0:aiE) (k_1:Int):Option (List Int):=
 (aiM (akM k_1 t_0) (0,([]:List Int))).bind fun aoT=>
   some aoT
noncomputable def anX (a_0:Int) (b_1:Int):Option Int:=
 if a_0<b_1 then
  (some a_0)
  else (some b_1)
noncomputable def aja (self:(aiL×Int)→Option (Bool×aiL)) (alf:Int) (apo:(List (List Int))) (apq:(List Int)) (apr:Int) (aps:Int) (apt:Int):Option ((Int×(List (List Int))×(List Int)×Int×Int×Int) ⊕ (((List (List Int))×(List Int)×Int×Int×Int) ⊕ (Bool×aiL))):=
 some (.inl ((w64 (alf+1)),apo,apq,apr,aps,apt))
noncomputable def ai7 (self:(aiL×Int)→Option (Bool×aiL)) (alf:Int) (x_0:aiL) (aj2:(List (List Int))) (akY:(List Int)) (s:(Bool×Int)):Option ((Bool×Int) ⊕ Bool):=
 match s with
  | (aoD,aoU)=>
  (rd aj2 (x_0.aiV.length:Int)).bind fun x60=>
  if aoU< (x60.length:Int) then
  ((if aoD=true then
  ((rd aj2 (x_0.aiV.length:Int)).bind fun x73=>
  (rd x73 aoU).bind fun x76=>
  if x76≥(x_0.aiV.length:Int) then
  (some true)
  else ((rd aj2 (x_0.aiV.length:Int)).bind fun x90=>
  (rd x90 aoU).bind fun x93=>
  (rd akY x93).bind fun x95=>
  some (x95 != alf)))
  else (some false)).bind fun aq8=>
  some (.inl (aq8,(w64 (aoU+1)))))
  else (some (.inr aoD))
noncomputable def aiU (self:(aiL×Int)→Option (Bool×aiL)) (ajS:Int) (x_0:aiL) (s:(Int×(List (List Int))×(List Int)×Int×Int×Int)):Option ((Int×(List (List Int))×(List Int)×Int×Int×Int) ⊕ (((List (List Int))×(List Int)×Int×Int×Int) ⊕ (Bool×aiL))):=
 match s with
  | (alf,aj2,akY,akZ,alh,ali)=>
  (anX akZ (w64 (ajS+1))).bind fun x50=>
  if alf<x50 then
  ((aiM (ai7 self alf x_0 aj2 akY) (true,0)).bind fun anm=>
  if anm=true then
  ((apd 8 akY ([alf]:List Int)).bind fun axq=>
  (alF ajS (w64 (alf+1))).bind fun aDV=>
  (self ((⟨aj2,axq,akZ,alh,ali⟩:aiL),aDV)).bind fun ann=>
  if ann.1=true then
  (some (.inr (.inr (true,ann.2))))
  else ((slc ann.2.aiV 0 (x_0.aiV.length:Int)).bind fun aDW=>
  aja self alf ann.2.near ((ann.2.aiV.take ((x_0.aiV.length:Int).toNat)).drop 0) ann.2.most ann.2.nodes ann.2.budget))
  else (aja self alf aj2 akY akZ alh ali))
  else (some (.inr (.inl (aj2,akY,akZ,alh,ali))))
noncomputable def ajg (self:(aiL×Int)→Option (Bool×aiL)) (x_0:aiL) (ajS:Int):Option (Bool×aiL):=
 if ((w64 (x_0.nodes+1)) >x_0.budget∨(x_0.aiV.length:Int)=(x_0.near.length:Int)) then
  (some (true,(⟨x_0.near,x_0.aiV,x_0.most,(w64 (x_0.nodes+1)),x_0.budget⟩:aiL)))
  else ((aiM (aiU self ajS x_0) (0,x_0.near,x_0.aiV,x_0.most,(w64 (x_0.nodes+1)),x_0.budget)).bind fun o=>match o with
  | (.inl (anY,anZ,an0,an1,an2))=>(some (false,(⟨anY,anZ,an0,an1,an2⟩:aiL)))
  | (.inr r2)=>(some r2))
noncomputable def aj3 (x_0:aiL) (ajS:Int):Option (Bool×aiL):=apG (fun self s=>match s with | (x_0,ajS)=>ajg self x_0 ajS) (x_0,ajS)
noncomputable def an3 (ajR:(List Int)):Option (List Int):=
 (apd 8 ([]:List Int) ajR).bind fun x5=>
   some x5
noncomputable def aiY (ajq:Int) (x19:Int) (s:((List (List Int))×(List Int)×Int×Int×Int)):Option (((List (List Int))×(List Int)×Int×Int×Int) ⊕ (Unit ⊕ ((List Int)×Int×Int))):=
 match s with
  | (am9,aqo,amd,ana,anb)=>
  if amd≤x19 then
  ((aj3 (⟨am9,([]:List Int),amd,ana,anb⟩:aiL) 0).bind fun x57=>
  if x57.2.nodes>ajq then
  (some (.inr (.inr (([]:List Int),0,5))))
  else (if x57.1=true then
  ((an3 x57.2.aiV).bind fun x69=>
  some (.inr (.inr (x69,x57.2.most,0))))
  else (some (.inl (x57.2.near,x57.2.aiV,(w64 (x57.2.most+1)),x57.2.nodes,x57.2.budget)))))
  else (some (.inr (.inl ())))
noncomputable def ako (t_0:aiE) (x19:Int) (s:(Int×(List (List Int)))):Option ((Int×(List (List Int))) ⊕ (List (List Int))):=
 match s with
  | (aq9,aoE)=>
  if aq9<x19 then
  ((alM t_0 aq9).bind fun x31=>
  (apd 24 aoE ([x31]:List (List Int))).bind fun x33=>
  some (.inl ((w64 (aq9+1)),x33)))
  else (some (.inr aoE))
noncomputable def ak9 (t_0:aiE) (ajq:Int):Option ((List Int)×Int×Int):=
 (aoz t_0).bind fun x11=>
   if x11=true then
   ((al9 ajq 1 20000).bind fun x14=>
   if x14=true then
   ((akc t_0).bind fun x19=>
   (aiM (ako t_0 x19) (0,([]:List (List Int)))).bind fun aom=>
   (aiM (aiY ajq x19) (aom,([]:List Int),1,0,ajq)).bind fun o=>match o with
   | (.inl _)=>(some (([]:List Int),0,3))
   | (.inr r2)=>(some r2))
   else (some (([]:List Int),0,2)))
   else (some (([]:List Int),0,1))
noncomputable def ame (n_0:Int) (apk:Int) (anE:Int):Option Bool:=
 some ((decide (n_0≥apk))&&(decide (n_0≤anE)))
noncomputable def aje (x_0:(List Int)) (s:(Int×Int)):Option ((Int×Int) ⊕ Int):=
 match s with
  | (aoF,anG)=>
  if anG< (x_0.length:Int) then
  ((rd x_0 anG).bind fun x21=>
  some (.inl ((min2 aoF x21),(w64 (anG+1)))))
  else (some (.inr aoF))
noncomputable def akd (x_0:(List Int)):Option Int:=
 if (x_0.length:Int) <1 then
  (none)
  else ((rd x_0 0).bind fun x10=>
  (aiM (aje x_0) (x10,1)).bind fun ano=>
  some ano)
noncomputable def ajf (x_0:(List Int)) (s:(Int×Int)):Option ((Int×Int) ⊕ Int):=
 match s with
  | (aoF,anG)=>
  if anG< (x_0.length:Int) then
  ((rd x_0 anG).bind fun x21=>
  some (.inl ((max2 aoF x21),(w64 (anG+1)))))
  else (some (.inr aoF))
noncomputable def ajO (x_0:(List Int)):Option Int:=
 if (x_0.length:Int) <1 then
  (none)
  else ((rd x_0 0).bind fun x10=>
  (aiM (ajf x_0) (x10,1)).bind fun ano=>
  some ano)
noncomputable def amT (t_0:aiE):Option Int:=
 (ajO t_0.Cells).bind fun x5=>
   some (w64 (x5+1))
noncomputable def ajB (s_0:(List Int)) (v_1:Int) (amU:Int):Option (Int ⊕ (Unit ⊕ Int)):=
 if amU< (s_0.length:Int) then
  ((rd s_0 amU).bind fun x14=>
  if v_1=x14 then
  (some (.inr (.inr amU)))
  else (some (.inl (w64 (amU+1)))))
  else (some (.inr (.inl ())))
noncomputable def ajy (s_0:(List Int)) (v_1:Int):Option Int:=
 (aiM (ajB s_0 v_1) 0).bind fun o=>match o with
   | (.inl _)=>(some (-1))
   | (.inr r2)=>(some r2)
noncomputable def anH (a_0:Int) (b_1:Int):Option Int:=
 (md a_0 b_1).bind fun x7=>
   (md (w64 (x7+b_1)) b_1).bind fun x11=>
   some x11
noncomputable def ai0 (x_0:Int) (y_1:Int) (aoG:Int) (avm:Int) (axr:(List Int)):Option Int:=
 (anH y_1 avm).bind fun x9=>
   (anH x_0 aoG).bind fun x16=>
   some (w64 ((w64 (x9*aoG))+x16))
noncomputable def ajH (t_0:aiE) (i_1:Int):Option aol:=
 (md i_1 t_0.aku).bind fun x11=>
   (dv .i64 i_1 t_0.aku).bind fun x15=>
   (ai0 (w64 (x11+1)) x15 t_0.aku t_0.High t_0.Cells).bind fun x21=>
   (ai0 (w64 (x11 - 1)) x15 t_0.aku t_0.High t_0.Cells).bind fun x26=>
   (ai0 x11 (w64 (x15+1)) t_0.aku t_0.High t_0.Cells).bind fun x31=>
   (ai0 x11 (w64 (x15 - 1)) t_0.aku t_0.High t_0.Cells).bind fun x36=>
   some (⟨x21,x26,x31,x36⟩:aol)
noncomputable def akB (alz:Int) (an4:Int):Option ((Int×Int) ⊕ Int):=
 some (.inl (an4,(w64 (alz+1))))
noncomputable def aj6 (t_0:aiE) (ai9:Int) (s:(Int×Int)):Option ((Int×Int) ⊕ Int):=
 match s with
  | (alG,alz)=>
  if alz< (t_0.Cells.length:Int) then
  ((rd t_0.Cells alz).bind fun axq=>
  if axq=ai9 then
  (akB alz (w64 (alG - 1)))
  else (akB alz alG))
  else (some (.inr alG))
noncomputable def akC (alA:Int) (aoH:(List Bool)) (anp:(List Int)):Option ((Int×(List Bool)×(List Int)) ⊕ ((List Bool)×(List Int))):=
 some (.inl ((w64 (alA+1)),aoH,anp))
noncomputable def ajI (t_0:aiE) (ai9:Int) (x79:aol) (s:(Int×(List Bool)×(List Int))):Option ((Int×(List Bool)×(List Int)) ⊕ ((List Bool)×(List Int))):=
 match s with
  | (alA,akN,akT)=>
  if alA<4 then
  ((rd ([x79.e0,x79.e1,x79.e2,x79.e3]:List Int) alA).bind fun x82=>
  (rd t_0.Cells x82).bind fun x86=>
  (if x86=ai9 then
  ((rd akN x82).bind fun x93=>
  some (!x93))
  else (some false)).bind fun aty=>
  if aty=true then
  ((rd akN x82).bind fun x99=>
  (apd 8 akT ([x82]:List Int)).bind fun x103=>
  akC alA (akN.set x82.toNat true) x103)
  else (akC alA akN akT))
  else (some (.inr (akN,akT)))
noncomputable def ajt (t_0:aiE) (ai9:Int) (s:(Int×Int×(List Bool)×(List Int))):Option ((Int×Int×(List Bool)×(List Int)) ⊕ Int):=
 match s with
  | (akD,amK,aoI,alN)=>
  if amK< (alN.length:Int) then
  ((rd alN amK).bind fun x77=>
  (ajH t_0 x77).bind fun x79=>
  (aiM (ajI t_0 ai9 x79) (0,aoI,alN)).bind fun o=>match o with
  | (anq,amf)=>
  some (.inl ((w64 (akD+1)),(w64 (amK+1)),anq,amf)))
  else (some (.inr akD))
noncomputable def ajc (t_0:aiE) (x46:Int) (ai9:Int):Option (Int ⊕ (Unit ⊕ Bool)):=
 if ai9<x46 then
  ((ajy t_0.Cells ai9).bind fun x54=>
  if x54<0 then
  (some (.inr (.inr false)))
  else ((mkl 1 (t_0.Cells.length:Int) false).bind fun x60=>
  (rd x60 x54).bind fun x65=>
  (aiM (ajt t_0 ai9) (0,0,(x60.set x54.toNat true),([x54]:List Int))).bind fun anQ=>
  (aiM (aj6 t_0 ai9) (anQ,0)).bind fun anR=>
  if anR≠0 then
  (some (.inr (.inr false)))
  else (some (.inl (w64 (ai9+1))))))
  else (some (.inr (.inl ())))
noncomputable def alB (t_0:aiE):Option Bool:=
 (ame t_0.aku 1 12).bind fun x16=>
   (if x16=true then
   ((ame t_0.High 1 12).bind fun x21=>
   if x21=true then
   (some ((t_0.Cells.length:Int) != (w64 (t_0.aku*t_0.High))))
   else (some true))
   else (some true)).bind fun avn=>
   if avn=true then
   (some false)
   else ((akd t_0.Cells).bind fun x37=>
   (if x37<0 then
   (some true)
   else ((ajO t_0.Cells).bind fun x42=>
   some (decide (x42≥36)))).bind fun avo=>
   if avo=true then
   (some false)
   else ((amT t_0).bind fun x46=>
   (aiM (ajc t_0 x46) 0).bind fun o=>match o with
   | (.inl _)=>(some true)
   | (.inr r2)=>(some r2)))
noncomputable def ajC (ajF:(List (List Int))) (s:(Int×(List (List Int)))):Option ((Int×(List (List Int))) ⊕ (List (List Int))):=
 match s with
  | (akp,als)=>
  if akp< (ajF.length:Int) then
  ((rd als akp).bind fun x54=>
  (awt x54).bind fun x56=>
  (rd (als.set akp.toNat x56) akp).bind fun x61=>
  (az9 x61).bind fun x63=>
  (rd (als.set akp.toNat x56) akp).bind fun x64=>
  some (.inl ((w64 (akp+1)),((als.set akp.toNat x56).set akp.toNat x63))))
  else (some (.inr als))
noncomputable def ajD (anr:Int) (aoJ:(List (List Int))):Option ((Int×(List (List Int))) ⊕ (List (List Int))):=
 some (.inl ((w64 (anr+1)),aoJ))
noncomputable def ai6 (t_0:aiE) (x19:Int) (x23:aol) (s:(Int×(List (List Int)))):Option ((Int×(List (List Int))) ⊕ (List (List Int))):=
 match s with
  | (anr,alY)=>
  if anr<4 then
  ((rd ([x23.e0,x23.e1,x23.e2,x23.e3]:List Int) anr).bind fun x26=>
  (rd t_0.Cells x26).bind fun x30=>
  if x30≠x19 then
  ((rd alY x19).bind fun x39=>
  (apd 8 x39 ([x30]:List Int)).bind fun x43=>
  (rd alY x19).bind fun x44=>
  ajD anr (alY.set x19.toNat x43))
  else (ajD anr alY))
  else (some (.inr alY))
noncomputable def aju (t_0:aiE) (s:(Int×(List (List Int)))):Option ((Int×(List (List Int))) ⊕ (List (List Int))):=
 match s with
  | (anS,akX)=>
  if anS< (t_0.Cells.length:Int) then
  ((rd t_0.Cells anS).bind fun x19=>
  (ajH t_0 anS).bind fun x23=>
  (aiM (ai6 t_0 x19 x23) (0,akX)).bind fun aoV=>
  some (.inl ((w64 (anS+1)),aoV)))
  else (some (.inr akX))
noncomputable def akQ (t_0:aiE):Option (List (List Int)):=
 (amT t_0).bind fun x11=>
   (mkl 24 x11 ([]:List Int)).bind fun x12=>
   (aiM (aju t_0) (0,x12)).bind fun ajF=>
   (aiM (ajC ajF) (0,ajF)).bind fun aon=>
   some aon
noncomputable def aiX (m_0:Int) (aoG:Int) (avp:(List Int)) (avq:Int):Option Bool:=
 (if m_0<aoG then
   ((rd avp m_0).bind fun x12=>
   some (x12==avq))
   else (some false)).bind fun axs=>
   some axs
noncomputable def aji (f_1:(Int→Option Bool)) (s_0:(List Int)) (amU:Int):Option (Int ⊕ (Unit ⊕ Int)):=
 if amU< (s_0.length:Int) then
  ((rd s_0 amU).bind fun x14=>
  (f_1 x14).bind fun x16=>
  if x16=true then
  (some (.inr (.inr amU)))
  else (some (.inl (w64 (amU+1)))))
  else (some (.inr (.inl ())))
noncomputable def ajY (s_0:(List Int)) (f_1:(Int→Option Bool)):Option Int:=
 (aiM (aji f_1 s_0) 0).bind fun o=>match o with
   | (.inl _)=>(some (-1))
   | (.inr r2)=>(some r2)
noncomputable def ajj (s_0:(List Int)) (f_1:(Int→Option Bool)):Option Bool:=
 (ajY s_0 f_1).bind fun x7=>
   some (decide (x7≥0))
noncomputable def ajr (self:(aiP×(List Int)×Int×Int)→Option ((List Int)×Int×aiP)) (aiO:Int) (anI:(List (List Int))) (anJ:Int):Option (((List (List Int))×Int×Int) ⊕ (((List (List Int))×Int) ⊕ ((List Int)×Int×aiP))):=
 some (.inl (anI,anJ,(w64 (aiO+1))))
noncomputable def ajh (self:(aiP×(List Int)×Int×Int)→Option ((List Int)×Int×aiP)) (aiJ:(List Int)) (ajJ:Int) (ajK:Int) (s:((List (List Int))×Int×Int)):Option (((List (List Int))×Int×Int) ⊕ (((List (List Int))×Int) ⊕ ((List Int)×Int×aiP))):=
 match s with
  | (akI,ak0,aiO)=>
  if (aiO<ajJ∧aiO≤ajK) then
  ((rd akI (aiJ.length:Int)).bind fun x51=>
  (ajj x51 (fun a0=>aiX a0 (aiJ.length:Int) aiJ aiO)).bind fun x54=>
  if x54=true then
  (ajr self aiO akI ak0)
  else ((apd 8 ([]:List Int) aiJ).bind fun x58=>
  (apd 8 x58 ([aiO]:List Int)).bind fun x61=>
  (self ((⟨akI,ak0⟩:aiP),x61,(max2 ajK (w64 (aiO+1))),ajJ)).bind fun x67=>
  if x67.2.1≠3 then
  (some (.inr (.inr (x67.1,x67.2.1,x67.2.2))))
  else (ajr self aiO x67.2.2.near x67.2.2.left)))
  else (some (.inr (.inl (akI,ak0))))
noncomputable def ajk (self:(aiP×(List Int)×Int×Int)→Option ((List Int)×Int×aiP)) (s_0:aiP) (aiJ:(List Int)) (ajK:Int) (ajJ:Int):Option ((List Int)×Int×aiP):=
 if s_0.left=0 then
  (some (([]:List Int),5,s_0))
  else (if (aiJ.length:Int)=(s_0.near.length:Int) then
  (some (aiJ,0,(⟨s_0.near,(w64 (s_0.left - 1))⟩:aiP)))
  else ((aiM (ajh self aiJ ajJ ajK) (s_0.near,(w64 (s_0.left - 1)),0)).bind fun o=>match o with
  | (.inl (an5,an6))=>(some (([]:List Int),3,(⟨an5,an6⟩:aiP)))
  | (.inr r2)=>(some r2)))
noncomputable def akg (s_0:aiP) (aiJ:(List Int)) (ajK:Int) (ajJ:Int):Option ((List Int)×Int×aiP):=apG (fun self s=>match s with | (s_0,aiJ,ajK,ajJ)=>ajk self s_0 aiJ ajK ajJ) (s_0,aiJ,ajK,ajJ)
noncomputable def ai1 (s:(Int×(List (List Int))×Int)):Option ((Int×(List (List Int))×Int) ⊕ ((List Int)×Int×Int)):=
 match s with
  | (ara,apI,apJ)=>
  (akg (⟨apI,apJ⟩:aiP) ([]:List Int) 0 ara).bind fun x29=>
  if x29.2.1=0 then
  (some (.inr (x29.1,ara,0)))
  else (if x29.2.1≠3 then
  (some (.inr (([]:List Int),0,x29.2.1)))
  else (some (.inl ((w64 (ara+1)),x29.2.2.near,x29.2.2.left))))
noncomputable def aks (t_0:aiE) (ajq:Int):Option ((List Int)×Int×Int):=
 (alB t_0).bind fun x13=>
   if x13=true then
   ((ame ajq 1 20000).bind fun x17=>
   if x17=true then
   ((akQ t_0).bind fun x20=>
   (aiM (ai1) (1,x20,ajq)).bind fun r2=>
   some r2)
   else (some (([]:List Int),0,2)))
   else (some (([]:List Int),0,1))
noncomputable def ak1 (a_0:(List Int)) (b_1:(List Int)) (aqp:Int):Option (Int ⊕ (Unit ⊕ Bool)):=
 if aqp< (a_0.length:Int) then
  ((rd a_0 aqp).bind fun x19=>
  (rd b_1 aqp).bind fun x23=>
  if x19≠x23 then
  (some (.inr (.inr false)))
  else (some (.inl (w64 (aqp+1)))))
  else (some (.inr (.inl ())))
noncomputable def aka (a_0:(List Int)) (b_1:(List Int)):Option Bool:=
 if (a_0.length:Int)≠(b_1.length:Int) then
  (some false)
  else ((aiM (ak1 a_0 b_1) 0).bind fun o=>match o with
  | (.inl _)=>(some true)
  | (.inr r2)=>(some r2))
noncomputable def amH (a_0:aiE) (b_1:aiE):Option Bool:=
 if a_0.aku≠b_1.aku then
  (some false)
  else (if a_0.High≠b_1.High then
  (some false)
  else ((aka a_0.Cells b_1.Cells).bind fun x19=>
  if x19=true then
  (some true)
  else (some false)))
noncomputable def ajU (a_0:(List Int)) (s:(Int×Int)):Option ((Int×Int) ⊕ Int):=
 match s with
  | (ala,ajZ)=>
  if ajZ< (a_0.length:Int) then
  ((rd a_0 ajZ).bind fun x15=>
  some (.inl ((w64 (ala+1)),(w64 (ajZ+1)))))
  else (some (.inr ala))
noncomputable def alb (a_0:(List Int)) (k_1:Int):Option Int:=
 (aiM (ajU a_0) (k_1,0)).bind fun akR=>
   some akR
noncomputable def alT (a_0:aiE) (k_1:Int):Option Int:=
 (alb a_0.Cells k_1).bind fun x8=>
   some x8
noncomputable def alc (s:(Int×Int×(List Int))):Option ((Int×Int×(List Int)) ⊕ (Int×(List Int))):=
 match s with
  | (ala,ajZ,aoW)=>
  if ajZ< (aoW.length:Int) then
  ((rd aoW ajZ).bind fun x15=>
  some (.inl ((w64 (ala+1)),(w64 (ajZ+1)),(aoW.set ajZ.toNat ala))))
  else (some (.inr (ala,aoW)))
noncomputable def alU (a_0:(List Int)) (k_1:Int):Option (Int×(List Int)):=
 (aiM (alc) (k_1,0,a_0)).bind fun o=>match o with
   | (akR,apu)=>
   some (akR,apu)
noncomputable def ald (a_0:(List Int)) (s:(Int×Int)):Option ((Int×Int) ⊕ (Int ⊕ Int)):=
 match s with
  | (ala,ajZ)=>
  if ajZ< (a_0.length:Int) then
  ((rd a_0 ajZ).bind fun x14=>
  if x14≠ala then
  (some (.inr (.inr (-1))))
  else (some (.inl ((w64 (ala+1)),(w64 (ajZ+1))))))
  else (some (.inr (.inl ala)))
noncomputable def alj (a_0:(List Int)) (k_1:Int):Option Int:=
 (aiM (ald a_0) (k_1,0)).bind fun o=>match o with
   | (.inl akR)=>(some akR)
   | (.inr r2)=>(some r2)
noncomputable def akk (apv:aiE) (ajV:Int):Option Bool:=
 (amF apv 1048576).bind fun x21=>
   if x21<0 then
   (some true)
   else ((akU apv).bind fun x26=>
   (ak9 x26 ajV).bind fun x28=>
   (akU apv).bind fun x33=>
   (aks x33 ajV).bind fun x37=>
   (aka x37.1 x28.1).bind fun x43=>
   if (¬(x43=true)∨(x37.2.1≠x28.2.1∨x37.2.2≠x28.2.2)) then
   (some false)
   else ((akU apv).bind fun x57=>
   (amH x33 x57).bind fun x58=>
   if x58=true then
   ((alT x33 1).bind fun x62=>
   (if x62<0 then
   (some true)
   else ((aka x37.1 x28.1).bind fun x68=>
   if x68=true then
   (if x37.2.1≠x28.2.1 then
   (some true)
   else (some (x37.2.2 != x28.2.2)))
   else (some true))).bind fun atz=>
   if atz=true then
   (some false)
   else ((alU x37.1 1).bind fun x83=>
   (alj x83.2 1).bind fun x86=>
   if x86<0 then
   (some false)
   else (if x86≠x83.1 then
   (some false)
   else ((akU apv).bind fun x94=>
   (aks x94 ajV).bind fun x96=>
   (aka x96.1 x28.1).bind fun x102=>
   if (¬(x102=true)∨(x96.2.1≠x28.2.1∨x96.2.2≠x28.2.2)) then
   (some false)
   else ((alj x83.2 1).bind fun aCX=>
   if aCX<0 then
   (some false)
   else (if aCX≠x83.1 then
   (some false)
   else (some true)))))))
   else (some false)))
end Go.Pw
