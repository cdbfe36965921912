/- The machine answers, at each function of the program that is reached, what its plain function answers: a further part. Conditions: none. -/
import Derived.Test.YtonnimmkimccfaaGreatTvdLa
namespace Go.Proofs.YtonnimmkimccfaaGreat
open Go Go.Sim Go.Pw Go.Proofs
set_option linter.unusedVariables false
set_option linter.unusedSimpArgs false
set_option maxRecDepth 100000
set_option maxHeartbeats 4000000
noncomputable section
theorem L_laws_toDesk {a_0:S_Desk} {r:S_Desk} (h:laws_toDesk a_0=some r):FX 32 [.im 2 true (u_S_Desk a_0)] (B0 [(true,[.im 0 (I r.Job.Picture.Drawing.Width),.im 0 (I r.Job.Picture.Drawing.Height),.ow 0 2 (List.map e_S_Point r.Job.Picture.Drawing.Points),.ow 0 2 (List.map e_S_Face r.Job.Picture.Drawing.Faces),.ow 0 3 (List.map e_S_Veneer r.Job.Picture.Veneers),.ow 0 9 (List.map e_S_Leaf r.Job.Leaves),.ow 0 5 (List.map e_S_Placement r.Job.Placements),.im 0 (I r.Job.Rules.Spacing),.im 0 (I r.Job.Rules.Margin),.im 0 (I r.Job.Rules.Angle),.im 0 (I r.Job.Rules.Shade),.im 0 (I r.Job.Thickness),.im 0 (I r.Job.Kerf),.im 0 (I r.Job.Bevel),.im 0 (I r.Job.Gap),.ow 0 1 (List.map eI r.Job.Order),.ow 0 1 (List.map eI r.Job.Cuts),.ow 0 4 (List.map e_S_Bond r.Bonds),.ow 0 4 (List.map e_S_Coat r.Coats),.im 0 (I r.Rates.Hour),.im 0 (I r.Rates.Edge),.im 0 (I r.Rates.Face),.im 0 (I r.Rates.Waste),.im 0 (I r.Rates.Margin)])]):=by
 unfold laws_toDesk at h
 refine gn 21 Tryz.func32 rfl ?_
 refine gs<|g0 j j (q (oBx j tF75 j (tkI (tkI (tkI (tkI (tkI (tkI (tkI (tkI (tkI (tkI (tkI (tkI (tkI (tkI (tkI (tkI (tkI (tkI (tkI (tkI (tkI (tkI (tkI (tkI tk0)))))))))))))))))))))))))<|q (oAl j tF82 (tkI (tkI (tkN (tkN (tkN (tkN (tkN (tkI (tkI (tkI (tkI (tkI (tkI (tkI (tkI (tkN (tkN (tkN (tkN (tkI (tkI (tkI (tkI (tkI tk0)))))))))))))))))))))))))<|nl)<|us<|gs<|g1 j j (mk [(1,M 1),(2,M 2)] [(1,Oa (G 2 (u_S_Desk a_0))),(2,Oa [C (I 0),C (I 0),Z (W 2 e_S_Point ([]:List S_Point)),Z (W 2 e_S_Face ([]:List S_Face)),Z (W 3 e_S_Veneer ([]:List S_Veneer)),Z (W 9 e_S_Leaf ([]:List S_Leaf)),Z (W 5 e_S_Placement ([]:List S_Placement)),C (I 0),C (I 0),C (I 0),C (I 0),C (I 0),C (I 0),C (I 0),C (I 0),Z (W 1 eI ([]:List Int)),Z (W 1 eI ([]:List Int)),Z (W 4 e_S_Bond ([]:List S_Bond)),Z (W 4 e_S_Coat ([]:List S_Coat)),C (I 0),C (I 0),C (I 0),C (I 0),C (I 0)])]) (q (oAl j tF82 (tkI (tkI (tkN (tkN (tkN (tkN (tkN (tkI (tkI (tkI (tkI (tkI (tkI (tkI (tkI (tkN (tkN (tkN (tkN (tkI (tkI (tkI (tkI (tkI tk0)))))))))))))))))))))))))<|nl)<|us<|gs<|?_
 obtain ⟨x6,hx6,h⟩:=bs h
 refine g1 j j (mk [(1,M 1),(2,M 2),(3,M 3)] [(1,Oa (G 2 (u_S_Desk a_0))),(2,Oa [C (I 0),C (I 0),Z (W 2 e_S_Point ([]:List S_Point)),Z (W 2 e_S_Face ([]:List S_Face)),Z (W 3 e_S_Veneer ([]:List S_Veneer)),Z (W 9 e_S_Leaf ([]:List S_Leaf)),Z (W 5 e_S_Placement ([]:List S_Placement)),C (I 0),C (I 0),C (I 0),C (I 0),C (I 0),C (I 0),C (I 0),C (I 0),Z (W 1 eI ([]:List Int)),Z (W 1 eI ([]:List Int)),Z (W 4 e_S_Bond ([]:List S_Bond)),Z (W 4 e_S_Coat ([]:List S_Coat)),C (I 0),C (I 0),C (I 0),C (I 0),C (I 0)]),(3,Oa [C (I 0),C (I 0),Z (W 2 e_S_Point ([]:List S_Point)),Z (W 2 e_S_Face ([]:List S_Face)),Z (W 3 e_S_Veneer ([]:List S_Veneer)),Z (W 9 e_S_Leaf ([]:List S_Leaf)),Z (W 5 e_S_Placement ([]:List S_Placement)),C (I 0),C (I 0),C (I 0),C (I 0),C (I 0),C (I 0),C (I 0),C (I 0),Z (W 1 eI ([]:List Int)),Z (W 1 eI ([]:List Int)),Z (W 4 e_S_Bond ([]:List S_Bond)),Z (W 4 e_S_Coat ([]:List S_Coat)),C (I 0),C (I 0),C (I 0),C (I 0),C (I 0)])]) (q (oFA (r':=.mp 1 0 0) j fF75_0 j j)<|q (oLd (cs:=[.im 0 _,.im 0 _,.im 2 _,.im 2 _,.im 2 _,.im 2 _,.im 2 _,.im 0 _,.im 0 _,.im 0 _,.im 0 _,.im 0 _,.im 0 _,.im 0 _,.im 0 _,.im 2 _,.im 2 _]) j tF35 j j)<|q (oCr (xs:=[.v true [.im 0 _,.im 0 _,.im 2 _,.im 2 _,.im 2 _,.im 2 _,.im 2 _,.im 0 _,.im 0 _,.im 0 _,.im 0 _,.im 0 _,.im 0 _,.im 0 _,.im 0 _,.im 2 _,.im 2 _]]) (vs:=[(true,[.im 0 _,.im 0 _,.own 6 0 0,.own 6 0 1,.own 6 0 2,.own 6 0 3,.own 6 0 4,.im 0 _,.im 0 _,.im 0 _,.im 0 _,.im 0 _,.im 0 _,.im 0 _,.im 0 _,.own 6 0 5,.own 6 0 6])]) (v:=.v true [.im 0 _,.im 0 _,.own 6 0 0,.own 6 0 1,.own 6 0 2,.own 6 0 3,.own 6 0 4,.im 0 _,.im 0 _,.im 0 _,.im 0 _,.im 0 _,.im 0 _,.im 0 _,.im 0 _,.own 6 0 5,.own 6 0 6]) (c:=⟨.sh,0,_⟩) (cs:=[⟨.sh,0,_⟩,⟨.sh,0,_⟩,⟨.sh,0,_⟩,⟨.sh,0,_⟩,⟨.sh,0,_⟩,⟨.sh,0,_⟩]) (L_laws_toJob hx6) (.inl j) j kF10_35 j (ppC j pp0) j j pb0 j j j)<|q (oFA (r':=.mp 3 0 0) j fF82_0 j j)<|q (oSt tF49 j j j (tkI (tkI (tkO j j (tkO j j (tkO j j (tkO j j (tkO j j (tkI (tkI (tkI (tkI (tkI (tkI (tkI (tkI (tkO j j (tkO j j tk0))))))))))))))))) j j j)<|nl)<|us<|gs<|?_
 obtain ⟨x10,hx10,h⟩:=bs h
 refine g1 j j (mk [(1,M 1),(2,M 2),(3,M 3)] [(1,Oa (G 2 (u_S_Desk a_0))),(2,Oa [C (I 0),C (I 0),Z (W 2 e_S_Point ([]:List S_Point)),Z (W 2 e_S_Face ([]:List S_Face)),Z (W 3 e_S_Veneer ([]:List S_Veneer)),Z (W 9 e_S_Leaf ([]:List S_Leaf)),Z (W 5 e_S_Placement ([]:List S_Placement)),C (I 0),C (I 0),C (I 0),C (I 0),C (I 0),C (I 0),C (I 0),C (I 0),Z (W 1 eI ([]:List Int)),Z (W 1 eI ([]:List Int)),Z (W 4 e_S_Bond ([]:List S_Bond)),Z (W 4 e_S_Coat ([]:List S_Coat)),C (I 0),C (I 0),C (I 0),C (I 0),C (I 0)]),(3,Oa [C (I x6.Picture.Drawing.Width),C (I x6.Picture.Drawing.Height),Z (W 2 e_S_Point x6.Picture.Drawing.Points),Z (W 2 e_S_Face x6.Picture.Drawing.Faces),Z (W 3 e_S_Veneer x6.Picture.Veneers),Z (W 9 e_S_Leaf x6.Leaves),Z (W 5 e_S_Placement x6.Placements),C (I x6.Rules.Spacing),C (I x6.Rules.Margin),C (I x6.Rules.Angle),C (I x6.Rules.Shade),C (I x6.Thickness),C (I x6.Kerf),C (I x6.Bevel),C (I x6.Gap),Z (W 1 eI x6.Order),Z (W 1 eI x6.Cuts),Z (W 4 e_S_Bond ([]:List S_Bond)),Z (W 4 e_S_Coat ([]:List S_Coat)),C (I 0),C (I 0),C (I 0),C (I 0),C (I 0)])]) (q (oFA (r':=.mp 1 0 17) j fF75_1 j j)<|q (oLd (cs:=[.im 2 _]) j tF70 j j)<|q (oCr (xs:=[.v false [.im 2 _]]) (vs:=[(false,[.own 10 0 0])]) (v:=.v false [.own 10 0 0]) (c:=⟨.sh,0,_⟩) (cs:=[]) (L_laws_toBondS hx10) (.inl j) j kF77_70 j (ppC j pp0) j j pb0 j j j)<|q (oFA (r':=.mp 3 0 17) j fF82_1 j j)<|q (oSt tF78 j j j (tkO j j tk0) j j j)<|nl)<|us<|gs<|?_
 obtain ⟨x14,hx14,h⟩:=bs h
 refine g1 j j (mk [(1,M 1),(2,M 2),(3,M 3)] [(1,Oa (G 2 (u_S_Desk a_0))),(2,Oa [C (I 0),C (I 0),Z (W 2 e_S_Point ([]:List S_Point)),Z (W 2 e_S_Face ([]:List S_Face)),Z (W 3 e_S_Veneer ([]:List S_Veneer)),Z (W 9 e_S_Leaf ([]:List S_Leaf)),Z (W 5 e_S_Placement ([]:List S_Placement)),C (I 0),C (I 0),C (I 0),C (I 0),C (I 0),C (I 0),C (I 0),C (I 0),Z (W 1 eI ([]:List Int)),Z (W 1 eI ([]:List Int)),Z (W 4 e_S_Bond ([]:List S_Bond)),Z (W 4 e_S_Coat ([]:List S_Coat)),C (I 0),C (I 0),C (I 0),C (I 0),C (I 0)]),(3,Oa [C (I x6.Picture.Drawing.Width),C (I x6.Picture.Drawing.Height),Z (W 2 e_S_Point x6.Picture.Drawing.Points),Z (W 2 e_S_Face x6.Picture.Drawing.Faces),Z (W 3 e_S_Veneer x6.Picture.Veneers),Z (W 9 e_S_Leaf x6.Leaves),Z (W 5 e_S_Placement x6.Placements),C (I x6.Rules.Spacing),C (I x6.Rules.Margin),C (I x6.Rules.Angle),C (I x6.Rules.Shade),C (I x6.Thickness),C (I x6.Kerf),C (I x6.Bevel),C (I x6.Gap),Z (W 1 eI x6.Order),Z (W 1 eI x6.Cuts),Z (W 4 e_S_Bond x10),Z (W 4 e_S_Coat ([]:List S_Coat)),C (I 0),C (I 0),C (I 0),C (I 0),C (I 0)])]) (q (oFA (r':=.mp 1 0 18) j fF75_2 j j)<|q (oLd (cs:=[.im 2 _]) j tF71 j j)<|q (oCr (xs:=[.v false [.im 2 _]]) (vs:=[(false,[.own 14 0 0])]) (v:=.v false [.own 14 0 0]) (c:=⟨.sh,0,_⟩) (cs:=[]) (L_laws_toCoatS hx14) (.inl j) j kF78_71 j (ppC j pp0) j j pb0 j j j)<|q (oFA (r':=.mp 3 0 18) j fF82_2 j j)<|q (oSt tF79 j j j (tkO j j tk0) j j j)<|nl)<|us<|gs<|?_
 obtain ⟨x18,hx18,h⟩:=bs h
 refine g1 j j (mk [(1,M 1),(2,M 2),(3,M 3)] [(1,Oa (G 2 (u_S_Desk a_0))),(2,Oa [C (I 0),C (I 0),Z (W 2 e_S_Point ([]:List S_Point)),Z (W 2 e_S_Face ([]:List S_Face)),Z (W 3 e_S_Veneer ([]:List S_Veneer)),Z (W 9 e_S_Leaf ([]:List S_Leaf)),Z (W 5 e_S_Placement ([]:List S_Placement)),C (I 0),C (I 0),C (I 0),C (I 0),C (I 0),C (I 0),C (I 0),C (I 0),Z (W 1 eI ([]:List Int)),Z (W 1 eI ([]:List Int)),Z (W 4 e_S_Bond ([]:List S_Bond)),Z (W 4 e_S_Coat ([]:List S_Coat)),C (I 0),C (I 0),C (I 0),C (I 0),C (I 0)]),(3,Oa [C (I x6.Picture.Drawing.Width),C (I x6.Picture.Drawing.Height),Z (W 2 e_S_Point x6.Picture.Drawing.Points),Z (W 2 e_S_Face x6.Picture.Drawing.Faces),Z (W 3 e_S_Veneer x6.Picture.Veneers),Z (W 9 e_S_Leaf x6.Leaves),Z (W 5 e_S_Placement x6.Placements),C (I x6.Rules.Spacing),C (I x6.Rules.Margin),C (I x6.Rules.Angle),C (I x6.Rules.Shade),C (I x6.Thickness),C (I x6.Kerf),C (I x6.Bevel),C (I x6.Gap),Z (W 1 eI x6.Order),Z (W 1 eI x6.Cuts),Z (W 4 e_S_Bond x10),Z (W 4 e_S_Coat x14),C (I 0),C (I 0),C (I 0),C (I 0),C (I 0)])]) (q (oFA (r':=.mp 1 0 19) j fF75_3 j j)<|q (oLd (cs:=[.im 0 _,.im 0 _,.im 0 _,.im 0 _,.im 0 _]) j tF73 j j)<|q (oCa (xs:=[.v true [.im 0 _,.im 0 _,.im 0 _,.im 0 _,.im 0 _]]) (vs:=[(true,[.im 0 _,.im 0 _,.im 0 _,.im 0 _,.im 0 _])]) (v:=.v true [.im 0 _,.im 0 _,.im 0 _,.im 0 _,.im 0 _]) (L_laws_toRates hx18) (.inl j) j kF79_73 j (ppC j pp0) j j pb0 j j j)<|q (oFA (r':=.mp 3 0 19) j fF82_3 j j)<|q (oSt tF80 j j j (tkI (tkI (tkI (tkI (tkI tk0))))) j j j)<|nl)<|us<|gs<|g1 j j (mk [(2,M 2),(3,M 3)] [(2,Oa [C (I 0),C (I 0),Z (W 2 e_S_Point ([]:List S_Point)),Z (W 2 e_S_Face ([]:List S_Face)),Z (W 3 e_S_Veneer ([]:List S_Veneer)),Z (W 9 e_S_Leaf ([]:List S_Leaf)),Z (W 5 e_S_Placement ([]:List S_Placement)),C (I 0),C (I 0),C (I 0),C (I 0),C (I 0),C (I 0),C (I 0),C (I 0),Z (W 1 eI ([]:List Int)),Z (W 1 eI ([]:List Int)),Z (W 4 e_S_Bond ([]:List S_Bond)),Z (W 4 e_S_Coat ([]:List S_Coat)),C (I 0),C (I 0),C (I 0),C (I 0),C (I 0)]),(3,Oa [C (I x6.Picture.Drawing.Width),C (I x6.Picture.Drawing.Height),Z (W 2 e_S_Point x6.Picture.Drawing.Points),Z (W 2 e_S_Face x6.Picture.Drawing.Faces),Z (W 3 e_S_Veneer x6.Picture.Veneers),Z (W 9 e_S_Leaf x6.Leaves),Z (W 5 e_S_Placement x6.Placements),C (I x6.Rules.Spacing),C (I x6.Rules.Margin),C (I x6.Rules.Angle),C (I x6.Rules.Shade),C (I x6.Thickness),C (I x6.Kerf),C (I x6.Bevel),C (I x6.Gap),Z (W 1 eI x6.Order),Z (W 1 eI x6.Cuts),Z (W 4 e_S_Bond x10),Z (W 4 e_S_Coat x14),C (I x18.Hour),C (I x18.Edge),C (I x18.Face),C (I x18.Waste),C (I x18.Margin)])]) (q (oLd (cs:=[.im 0 _,.im 0 _,.own 3 0 2,.own 3 0 3,.own 3 0 4,.own 3 0 5,.own 3 0 6,.im 0 _,.im 0 _,.im 0 _,.im 0 _,.im 0 _,.im 0 _,.im 0 _,.im 0 _,.own 3 0 15,.own 3 0 16,.own 3 0 17,.own 3 0 18,.im 0 _,.im 0 _,.im 0 _,.im 0 _,.im 0 _]) j tF82 j j)<|q (oSt tF82 j j j (tkI (tkI (tkO j j (tkO j j (tkO j j (tkO j j (tkO j j (tkI (tkI (tkI (tkI (tkI (tkI (tkI (tkI (tkO j j (tkO j j (tkO j j (tkO j j (tkI (tkI (tkI (tkI (tkI tk0)))))))))))))))))))))))) j j j)<|nl)<|us<|Go.ret (Unw.ret ?_)
 cases h
 exact fr rF32 j
theorem L_spec_l00In {n_0:Int} {low_1:Int} {high_2:Int} {r:Bool} (h:spec_l00In n_0 low_1 high_2=some r):FX 108 [.im 2 false [I n_0],.im 2 false [I low_1],.im 2 false [I high_2]] (B0 [(false,[.im 0 (V r)])]):=by
 unfold spec_l00In at h
 refine gn 15 Tryz.func108 rfl ?_
 refine gs<|g0 j j (q (oAsI j j)<|nl)<|us<|gs<|gX c108 j j j (mk [(6,bv ((decide (n_0≥low_1))&&(decide (n_0≤high_2))))] []) ?_ ?_
 ·refine xq (oMv j j)<|xq (oMv j j)<|xq (oBi j j j j)<|xq (oMv j j)<|?_
  by_cases hc1:n_0≥low_1
  ·exact xqT rfl rfl (iDec.2 hc1) (oMv rfl rfl)<|xqT rfl rfl (iDec.2 hc1) (oMv rfl rfl)<|xqT rfl rfl (iDec.2 hc1) (oBi rfl rfl rfl rfl)<|xq (oPkT rfl rfl (iDec.2 hc1) rfl)<|xq (oAsI rfl rfl)<|xn (Eq.trans (b:=(fun t_6_m1:Bool=>mk [(6,bv t_6_m1)] []) (decide (n_0≤high_2))) (by kernel_rfl) (congrArg (fun t_6_m1:Bool=>mk [(6,bv t_6_m1)] []) (by first | rfl | (simp [(iDec.2 hc1)];done) | (simp [(iDec.2 hc1)];omega))))
  ·exact xsgF rfl rfl (byF iDec hc1) rfl<|xsgF rfl rfl (byF iDec hc1) rfl<|xsgF rfl rfl (byF iDec hc1) rfl<|xq (oPkF rfl rfl (byF iDec hc1) rfl)<|xq (oAsI rfl rfl)<|xn (Eq.trans (b:=(fun t_6_m1:Bool=>mk [(6,bv t_6_m1)] []) false) (by kernel_rfl) (congrArg (fun t_6_m1:Bool=>mk [(6,bv t_6_m1)] []) (by first | rfl | (simp [(byF iDec hc1)];done) | (simp [(byF iDec hc1)];omega))))
 ·refine us<|Go.ret (Unw.ret ?_)
  cases h
  exact fr rF108 j
theorem L_spec_l05Points {d_0:S_Drawing} {r:Bool} (h:spec_l05Points d_0=some r):FX 155 [.im 2 false [.cp (u_S_Drawing d_0) 0]] (B0 [(false,[.im 0 (V r)])]):=by
 unfold spec_l05Points at h
 refine gn 70 Tryz.func155 rfl ?_
 refine gs<|g0 j j (q (oAsI j j)<|nl)<|us<|gs<|gs<|g0 j j (q (oMv j j)<|q (oNl j j j)<|q (oFA (r':=.im 2 _) j fF41_2 j j)<|q (oLd (cs:=[.im 2 _]) j tF38 j j)<|q (oLnI j j uF38 j)<|q (oBi j j j j)<|nl)<|us<|gc h j iDec (fun hc1 h=>?_) fun hc1 h=>?_
 ·refine gs<|g0 j j (q (oAsI j j)<|nl)<|us<|Go.ret (Unw.ret ?_)
  cases h
  exact fr rF155 j
 ·refine Go.skip<|us<|gs<|gs<|g0 j j (q (oAsI j j)<|nl)<|us<|Go.block<|?_
  obtain ⟨o,hl,h⟩:=bs h
  refine gl c155 j _ (fun (i_3_l4:Int)=>mk [(0,D 2 (.cp (u_S_Drawing d_0) 0)),(3,iv i_3_l4)] []) (fun (o:(Unit ⊕ Bool)) (p:Ex×St)=>match o with | (.inl _)=>p.1= .exit 0∧p.2.norm ([],[])=mk [] [] | (.inr r2)=>p.1= .ret∧fin Tryz.prog cfg 155 Tryz.f155 [.im 2 false [.cp (u_S_Drawing d_0) 0]] p.2=some (B0 [(false,[.im 0 (V r2)])])) hl (by kernel_rfl) ?_ ?_ ?_
  ·intro o p hp e
   rcases o with u | r2<;>exact nomatch (hp.1.symm.trans e)
  ·rintro i_3_l4 o h
   unfold spec_l05Points_l4 at h
   refine gs<|gs<|g0 j j (q (oMv j j)<|q (oMv j j)<|q (oNl j j j)<|q (oFA (r':=.im 2 _) j fF41_2 j j)<|q (oLd (cs:=[.im 2 _]) j tF38 j j)<|q (oLnI j j uF38 j)<|q (oBi j j j j)<|nl)<|us<|gc h j iDec (fun hc18 h=>?_) fun hc18 h=>?_
   ·refine Go.skip<|us<|gs<|Go.block<|gs<|gs<|?_
    obtain ⟨x25,hx25,h⟩:=bs h
    obtain ⟨x32,hx32,h⟩:=bs h
    obtain ⟨t_49_m6,hm27,h⟩:=bs h
    refine gd c155 j j j j (mk [(0,D 2 (.cp (u_S_Drawing d_0) 0)),(3,iv i_3_l4),(49,bv t_49_m6)] []) ?_ ?_
    ·refine t j j (oMv j j)<|t j j (oNl j j j)<|t j j (oFA (r':=.im 2 _) j fF41_2 j j)<|t j j (oLd (cs:=[.im 2 _]) j tF38 j j)<|t j j (oMv j j)<|t j j (oIAI j hx25 sF38 j j)<|t j j (oFA (r':=.im 2 _) j fF184_0 j j)<|t j j (oLd (cs:=[.im 2 _]) j tF2 j j)<|t j j (oMv j j)<|t j j (oNl j j j)<|t j j (oFA (r':=.im 2 _) j fF41_0 j j)<|?_
     refine ic hm27 (fun hc19 hm27=>?_) fun hc19 hm27=>?_
     ·obtain ⟨x40,hx40,hm27⟩:=bs hm27
      obtain ⟨x47,hx47,hm27⟩:=bs hm27
      cases hm27
      exact t j j (oLd (cs:=[.im 2 _]) j tF2 j j)<|sS (dN z155 j (oCa (xs:=[.v false [.im 2 _],.v false [.im 0 _],.v false [.im 2 _]]) (vs:=[(false,[.im 0 _])]) (v:=.v false [.im 0 _]) (L_spec_l00In hx32) (.inl j) j kF108_2_2_2 j (ppC j (ppC j (ppC j pp0))) j j pb0 j j j)) trivial (t j j (oUn j j j)<|t j j (oMv j j)<|tT j j j j (nF (iR.2 hc19)) (oMv j j)<|tT j j j j (nF (iR.2 hc19)) (oNl j j j)<|tT j j j j (nF (iR.2 hc19)) (oFA (r':=.im 2 _) j fF41_2 j j)<|tT j j j j (nF (iR.2 hc19)) (oLd (cs:=[.im 2 _]) j tF38 j j)<|tT j j j j (nF (iR.2 hc19)) (oMv j j)<|tT j j j j (nF (iR.2 hc19)) (oIAI j hx40 sF38 j j)<|tT j j j j (nF (iR.2 hc19)) (oFA (r':=.im 2 _) j fF184_1 j j)<|tT j j j j (nF (iR.2 hc19)) (oLd (cs:=[.im 2 _]) j tF2 j j)<|tT j j j j (nF (iR.2 hc19)) (oMv j j)<|tT j j j j (nF (iR.2 hc19)) (oNl j j j)<|tT j j j j (nF (iR.2 hc19)) (oFA (r':=.im 2 _) j fF41_1 j j)<|tT j j j j (nF (iR.2 hc19)) (oLd (cs:=[.im 2 _]) j tF2 j j)<|sS (dT z155 j j j (nF (iR.2 hc19)) (oCa (xs:=[.v false [.im 2 _],.v false [.im 0 _],.v false [.im 2 _]]) (vs:=[(false,[.im 0 _])]) (v:=.v false [.im 0 _]) (L_spec_l00In hx47) (.inl j) j kF108_2_2_2 j (ppC j (ppC j (ppC j pp0))) j j pb0 j j j)) trivial (tT j j j j (nF (iR.2 hc19)) (oUn j j j)<|t j j (oPkF j j (nF (iR.2 hc19)) j)<|sD (by kernel_rfl)))
     ·cases hm27
      exact t j j (oLd (cs:=[.im 2 _]) j tF2 j j)<|sS (dN z155 j (oCa (xs:=[.v false [.im 2 _],.v false [.im 0 _],.v false [.im 2 _]]) (vs:=[(false,[.im 0 _])]) (v:=.v false [.im 0 _]) (L_spec_l00In hx32) (.inl j) j kF108_2_2_2 j (ppC j (ppC j (ppC j pp0))) j j pb0 j j j)) trivial (t j j (oUn j j j)<|t j j (oMv j j)<|tF j j j j (nT (byF iR hc19)) j<|tF j j j j (nT (byF iR hc19)) j<|tF j j j j (nT (byF iR hc19)) j<|tF j j j j (nT (byF iR hc19)) j<|tF j j j j (nT (byF iR hc19)) j<|tF j j j j (nT (byF iR hc19)) j<|tF j j j j (nT (byF iR hc19)) j<|tF j j j j (nT (byF iR hc19)) j<|tF j j j j (nT (byF iR hc19)) j<|tF j j j j (nT (byF iR hc19)) j<|tF j j j j (nT (byF iR hc19)) j<|tF j j j j (nT (byF iR hc19)) j<|sS (dF j j j (nT (byF iR hc19)) j) trivial (tF j j j j (nT (byF iR hc19)) j<|t j j (oPkT j j (nT (byF iR hc19)) j)<|sD (by kernel_rfl)))
    ·refine us<|gc h j iR (fun hc20 h=>?_) fun hc20 h=>?_
     ·refine gs<|g0 j j (q (oAsI j j)<|nl)<|us<|Go.ret (Unw.ret ?_)
      cases h
      exact ⟨j,(fo rF155 j)⟩
     ·refine Go.skip<|us<|gs<|g0 j j (q (oAsI j j)<|nl)<|us<|Go.block<|?_
      obtain ⟨o,hl,h⟩:=bs h
      refine gl c155 j _ (fun (k_4_l9:Int)=>mk [(0,D 2 (.cp (u_S_Drawing d_0) 0)),(3,iv i_3_l4),(4,iv k_4_l9)] []) (fun (o:(Unit ⊕ Bool)) (p:Ex×St)=>match o with | (.inl _)=>p.1= .exit 2∧p.2.norm ([0,3],[])=mk [(0,D 2 (.cp (u_S_Drawing d_0) 0)),(3,iv i_3_l4)] [] | (.inr r2)=>p.1= .ret∧fin Tryz.prog cfg 155 Tryz.f155 [.im 2 false [.cp (u_S_Drawing d_0) 0]] p.2=some (B0 [(false,[.im 0 (V r2)])])) hl (by kernel_rfl) ?_ ?_ ?_
      ·intro o p hp e
       rcases o with u | r2<;>exact nomatch (hp.1.symm.trans e)
      ·rintro k_4_l9 o h
       unfold spec_l05Points_l9 at h
       refine gs<|gs<|g0 j j (q (oMv j j)<|q (oMv j j)<|q (oBi j j j j)<|nl)<|us<|gc h j iDec (fun hc25 h=>?_) fun hc25 h=>?_
       ·refine Go.skip<|us<|gs<|Go.block<|gs<|?_
        obtain ⟨x60,hx60,h⟩:=bs h
        obtain ⟨x67,hx67,h⟩:=bs h
        refine gd c155 j j j j (mk [(0,D 2 (.cp (u_S_Drawing d_0) 0)),(3,iv i_3_l4),(4,iv k_4_l9),(69,bv ((x60.X==x67.X)&&(x60.Y==x67.Y)))] []) (t j j (oMv j j)<|t j j (oNl j j j)<|t j j (oFA (r':=.im 2 _) j fF41_2 j j)<|t j j (oLd (cs:=[.im 2 _]) j tF38 j j)<|t j j (oMv j j)<|t j j (oIAI j hx60 sF38 j j)<|t j j (oLd (cs:=[.im 2 _,.im 2 _]) j tF184 j j)<|t j j (oMv j j)<|t j j (oNl j j j)<|t j j (oFA (r':=.im 2 _) j fF41_2 j j)<|t j j (oLd (cs:=[.im 2 _]) j tF38 j j)<|t j j (oMv j j)<|t j j (oIAI j hx67 sF38 j j)<|t j j (oLd (cs:=[.im 2 _,.im 2 _]) j tF184 j j)<|t j j (oBa j (qEF184 x60.X x60.Y x67.X x67.Y) j j j j)<|sD (by kernel_rfl))<|us<|gc h j (iAnd iEq iEq) (fun hc26 h=>?_) fun hc26 h=>?_
        ·refine gs<|g0 j j (q (oAsI j j)<|nl)<|us<|Go.ret (Unw.ret ?_)
         cases h
         exact ⟨j,(fo rF155 j)⟩
        ·refine Go.skip<|Unw.blk<|us<|g0 j j (q (oMv j j)<|q (oBi j j j j)<|q (oAsI j j)<|nl)<|Unw.nil<|?_
         cases h
         exact ⟨j,(by kernel_rfl)⟩
       ·refine Go.exit<|ux<|Unw.nil<|?_
        cases h
        exact ⟨j,(by kernel_rfl)⟩
      ·rintro ⟨e,st⟩ hp
       rcases o with u | r2
       ·dsimp only at h
        obtain ⟨he,hst⟩:=hp
        obtain rfl:e= .exit 2:=he
        refine Unw.blkx<|Unw.blk<|us<|g2 c155 j j hst (q (oMv j j)<|q (oBi j j j j)<|q (oAsI j j)<|nl)<|Unw.nil<|?_
        cases h
        exact ⟨j,(by kernel_rfl)⟩
       ·dsimp only at h
        obtain ⟨he,hfin⟩:=hp
        obtain rfl:e= .ret:=he
        cases h
        exact Unw.ret ⟨j,hfin⟩
   ·refine Go.exit<|ux<|Unw.nil<|?_
    cases h
    exact ⟨j,(by kernel_rfl)⟩
  ·rintro ⟨e,st⟩ hp
   rcases o with u | r2
   ·dsimp only at h
    obtain ⟨he,hst⟩:=hp
    obtain rfl:e= .exit 0:=he
    refine Unw.blkx<|us<|gs<|g2 c155 j j hst (q (oAsI j j)<|nl)<|us<|Go.ret (Unw.ret ?_)
    cases h
    exact fr rF155 j
   ·dsimp only at h
    obtain ⟨he,hfin⟩:=hp
    obtain rfl:e= .ret:=he
    cases h
    exact Unw.ret (Fin_ret hfin)
theorem L_spec_l01Small {c_0:Int} {r:Bool} (h:spec_l01Small c_0=some r):FX 183 [.im 2 false [.sc (.int .u8 c_0)]] (B0 [(false,[.im 0 (V r)])]):=by
 unfold spec_l01Small at h
 refine gn 9 Tryz.func183 rfl ?_
 refine gs<|g0 j j (q (oAsI j j)<|nl)<|us<|gs<|gX c183 j j j (mk [(2,bv ((decide (c_0≥97))&&(decide (c_0≤122))))] []) ?_ ?_
 ·refine xq (oMv j j)<|xq (oBi j j j j)<|xq (oMv j j)<|?_
  by_cases hc1:c_0≥97
  ·exact xqT rfl rfl (iDec.2 hc1) (oMv rfl rfl)<|xqT rfl rfl (iDec.2 hc1) (oBi rfl rfl rfl rfl)<|xq (oPkT rfl rfl (iDec.2 hc1) rfl)<|xq (oAsI rfl rfl)<|xn (Eq.trans (b:=(fun t_2_m1:Bool=>mk [(2,bv t_2_m1)] []) (decide (c_0≤122))) (by kernel_rfl) (congrArg (fun t_2_m1:Bool=>mk [(2,bv t_2_m1)] []) (by first | rfl | (simp [(iDec.2 hc1)];done) | (simp [(iDec.2 hc1)];omega))))
  ·exact xsgF rfl rfl (byF iDec hc1) rfl<|xsgF rfl rfl (byF iDec hc1) rfl<|xq (oPkF rfl rfl (byF iDec hc1) rfl)<|xq (oAsI rfl rfl)<|xn (Eq.trans (b:=(fun t_2_m1:Bool=>mk [(2,bv t_2_m1)] []) false) (by kernel_rfl) (congrArg (fun t_2_m1:Bool=>mk [(2,bv t_2_m1)] []) (by first | rfl | (simp [(byF iDec hc1)];done) | (simp [(byF iDec hc1)];omega))))
 ·refine us<|Go.ret (Unw.ret ?_)
  cases h
  exact fr rF183 j
theorem L_spec_l01Digit {c_0:Int} {r:Bool} (h:spec_l01Digit c_0=some r):FX 184 [.im 2 false [.sc (.int .u8 c_0)]] (B0 [(false,[.im 0 (V r)])]):=by
 unfold spec_l01Digit at h
 refine gn 9 Tryz.func184 rfl ?_
 refine gs<|g0 j j (q (oAsI j j)<|nl)<|us<|gs<|gX c184 j j j (mk [(2,bv ((decide (c_0≥48))&&(decide (c_0≤57))))] []) ?_ ?_
 ·refine xq (oMv j j)<|xq (oBi j j j j)<|xq (oMv j j)<|?_
  by_cases hc1:c_0≥48
  ·exact xqT rfl rfl (iDec.2 hc1) (oMv rfl rfl)<|xqT rfl rfl (iDec.2 hc1) (oBi rfl rfl rfl rfl)<|xq (oPkT rfl rfl (iDec.2 hc1) rfl)<|xq (oAsI rfl rfl)<|xn (Eq.trans (b:=(fun t_2_m1:Bool=>mk [(2,bv t_2_m1)] []) (decide (c_0≤57))) (by kernel_rfl) (congrArg (fun t_2_m1:Bool=>mk [(2,bv t_2_m1)] []) (by first | rfl | (simp [(iDec.2 hc1)];done) | (simp [(iDec.2 hc1)];omega))))
  ·exact xsgF rfl rfl (byF iDec hc1) rfl<|xsgF rfl rfl (byF iDec hc1) rfl<|xq (oPkF rfl rfl (byF iDec hc1) rfl)<|xq (oAsI rfl rfl)<|xn (Eq.trans (b:=(fun t_2_m1:Bool=>mk [(2,bv t_2_m1)] []) false) (by kernel_rfl) (congrArg (fun t_2_m1:Bool=>mk [(2,bv t_2_m1)] []) (by first | rfl | (simp [(byF iDec hc1)];done) | (simp [(byF iDec hc1)];omega))))
 ·refine us<|Go.ret (Unw.ret ?_)
  cases h
  exact fr rF184 j
theorem L_spec_l01Name {s_0:ByteArray} {r:Bool} (h:spec_l01Name s_0=some r):FX 156 [.im 2 false [Y s_0]] (B0 [(false,[.im 0 (V r)])]):=by
 unfold spec_l01Name at h
 refine gn 35 Tryz.func156 rfl ?_
 refine gs<|g0 j j (q (oAsI j j)<|nl)<|us<|gs<|gs<|?_
 obtain ⟨t_16_m1,hm16,h⟩:=bs h
 refine gX c156 j j j (mk [(0,sv s_0),(16,bv t_16_m1)] []) ?_ ?_
 ·refine xq (oMv j j)<|xq (oBi j j j j)<|xq (oMv j j)<|?_
  refine ic hm16 (fun hc1 hm16=>?_) fun hc1 hm16=>?_
  ·cases hm16
   exact xsgF j j (iStr.2 hc1) j<|xsgF j j (iStr.2 hc1) j<|xsgF j j (iStr.2 hc1) j<|xq (oPkT j j (iStr.2 hc1) j)<|xq (oMv j j)<|xsgF j j j j<|xsgF j j j j<|xsgF j j j j<|xsgF j j j j<|xq (oPkT j j j j)<|xn
  ·refine xqT j j (byF iStr hc1) (oMv j j)<|xqT j j (byF iStr hc1) (oLnS j j uF9 j)<|xqT j j (byF iStr hc1) (oBi j j j j)<|xq (oPkF j j (byF iStr hc1) j)<|xq (oMv j j)<|?_
   refine ic hm16 (fun hc2 hm16=>?_) fun hc2 hm16=>?_
   ·cases hm16
    exact xsgF j j (iDec.2 hc2) j<|xsgF j j (iDec.2 hc2) j<|xsgF j j (iDec.2 hc2) j<|xsgF j j (iDec.2 hc2) j<|xq (oPkT j j (iDec.2 hc2) j)<|xn
   ·obtain ⟨x13,hx13,hm16⟩:=bs hm16
    obtain ⟨x14,hx14,hm16⟩:=bs hm16
    cases hm16
    exact xqT j j (byF iDec hc2) (oMv j j)<|xqT j j (byF iDec hc2) (oIx j hx13 uF9 j j)<|xqT j j (byF iDec hc2) (oCa (xs:=[.v false [.im 0 _]]) (vs:=[(false,[.im 0 _])]) (v:=.v false [.im 0 _]) (L_spec_l01Small hx14) (.inl j) j kF183_5 j (ppC j pp0) j j pb0 j j j)<|xqT j j (byF iDec hc2) (oUn j j j)<|xq (oPkF j j (byF iDec hc2) j)<|xn
 ·refine us<|gc h j iR (fun hc3 h=>?_) fun hc3 h=>?_
  ·refine gs<|g0 j j (q (oAsI j j)<|nl)<|us<|Go.ret (Unw.ret ?_)
   cases h
   exact fr rF156 j
  ·refine Go.skip<|us<|gs<|gs<|g0 j j (q (oAsI j j)<|nl)<|us<|Go.block<|?_
   obtain ⟨o,hl,h⟩:=bs h
   refine gl c156 j _ (fun (i_3_l4:Int)=>mk [(0,sv s_0),(3,iv i_3_l4)] []) (fun (o:(Unit ⊕ Bool)) (p:Ex×St)=>match o with | (.inl _)=>p.1= .exit 0∧p.2.norm ([],[])=mk [] [] | (.inr r2)=>p.1= .ret∧fin Tryz.prog cfg 156 Tryz.f156 [.im 2 false [Y s_0]] p.2=some (B0 [(false,[.im 0 (V r2)])])) hl (by kernel_rfl) ?_ ?_ ?_
   ·intro o p hp e
    rcases o with u | r2<;>exact nomatch (hp.1.symm.trans e)
   ·rintro i_3_l4 o h
    unfold spec_l01Name_l4 at h
    refine gs<|gs<|g0 j j (q (oMv j j)<|q (oMv j j)<|q (oLnS j j uF9 j)<|q (oBi j j j j)<|nl)<|us<|gc h j iDec (fun hc12 h=>?_) fun hc12 h=>?_
    ·refine Go.skip<|us<|gs<|Go.block<|gs<|?_
     obtain ⟨x25,hx25,h⟩:=bs h
     obtain ⟨x26,hx26,h⟩:=bs h
     obtain ⟨t_34_m6,hm15,h⟩:=bs h
     refine gX c156 j j j (mk [(0,sv s_0),(3,iv i_3_l4),(34,bv t_34_m6)] []) ?_ ?_
     ·refine xq (oMv j j)<|xq (oMv j j)<|xq (oIx j hx25 uF9 j j)<|xq (oCa (xs:=[.v false [.im 0 _]]) (vs:=[(false,[.im 0 _])]) (v:=.v false [.im 0 _]) (L_spec_l01Small hx26) (.inl j) j kF183_5 j (ppC j pp0) j j pb0 j j j)<|xq (oUn j j j)<|xq (oMv j j)<|?_
      refine ic hm15 (fun hc13 hm15=>?_) fun hc13 hm15=>?_
      ·cases hm15
       exact xsgF j j (nF (iR.2 hc13)) j<|xsgF j j (nF (iR.2 hc13)) j<|xsgF j j (nF (iR.2 hc13)) j<|xsgF j j (nF (iR.2 hc13)) j<|xsgF j j (nF (iR.2 hc13)) j<|xq (oPkF j j (nF (iR.2 hc13)) j)<|xn
      ·obtain ⟨x31,hx31,hm15⟩:=bs hm15
       obtain ⟨x32,hx32,hm15⟩:=bs hm15
       cases hm15
       exact xqT j j (nT (byF iR hc13)) (oMv j j)<|xqT j j (nT (byF iR hc13)) (oMv j j)<|xqT j j (nT (byF iR hc13)) (oIx j hx31 uF9 j j)<|xqT j j (nT (byF iR hc13)) (oCa (xs:=[.v false [.im 0 _]]) (vs:=[(false,[.im 0 _])]) (v:=.v false [.im 0 _]) (L_spec_l01Digit hx32) (.inl j) j kF184_5 j (ppC j pp0) j j pb0 j j j)<|xqT j j (nT (byF iR hc13)) (oUn j j j)<|xq (oPkT j j (nT (byF iR hc13)) j)<|xn
     ·refine us<|gc h j iR (fun hc14 h=>?_) fun hc14 h=>?_
      ·refine gs<|g0 j j (q (oAsI j j)<|nl)<|us<|Go.ret (Unw.ret ?_)
       cases h
       exact ⟨j,(fo rF156 j)⟩
      ·refine Go.skip<|Unw.blk<|us<|g0 j j (q (oMv j j)<|q (oBi j j j j)<|q (oAsI j j)<|nl)<|Unw.nil<|?_
       cases h
       exact ⟨j,(by kernel_rfl)⟩
    ·refine Go.exit<|ux<|Unw.nil<|?_
     cases h
     exact ⟨j,(by kernel_rfl)⟩
   ·rintro ⟨e,st⟩ hp
    rcases o with u | r2
    ·dsimp only at h
     obtain ⟨he,hst⟩:=hp
     obtain rfl:e= .exit 0:=he
     refine Unw.blkx<|us<|gs<|g2 c156 j j hst (q (oAsI j j)<|nl)<|us<|Go.ret (Unw.ret ?_)
     cases h
     exact fr rF156 j
    ·dsimp only at h
     obtain ⟨he,hfin⟩:=hp
     obtain rfl:e= .ret:=he
     cases h
     exact Unw.ret (Fin_ret hfin)
theorem L_spec_l05Ring {d_0:S_Drawing} {ring_1:(List Int)} {r:((List S_Point)×Bool)} (h:spec_l05Ring d_0 ring_1=some r):FX 157 [.im 2 false [.cp (u_S_Drawing d_0) 0],.im 2 false [W 1 eI ring_1]] (B0 [(false,[.ow 0 2 (List.map e_S_Point r.1)]),(false,[.im 0 (V r.2)])]):=by
 unfold spec_l05Ring at h
 refine gn 41 Tryz.func157 rfl ?_
 refine gs<|g0 j j (q (oAsN j j eF38)<|q (oAsI j j)<|nl)<|us<|gs<|g0 j j (q (oBS (es:=List.map e_S_Point ([]:List S_Point)) j sF38 j pt0 (flat0 j fun _=>j))<|q (oAsO j j j j j)<|nl)<|us<|gs<|gs<|g0 j j (q (oAsI j j)<|nl)<|us<|Go.block<|?_
 obtain ⟨o,hl,h⟩:=bs h
 refine gl c157 j _ (fun (s:(Int×(List S_Point)))=>match s with | (i_7_l3,out_o6_l3)=>mk [(0,D 2 (.cp (u_S_Drawing d_0) 0)),(1,D 2 (W 1 eI ring_1)),(6,H 6 0),(7,iv i_7_l3)] [(6,Oc [Z (W 2 e_S_Point out_o6_l3)])]) (fun (o:((List S_Point) ⊕ ((List S_Point)×Bool))) (p:Ex×St)=>match o with | (.inl out_o6_e0_3)=>p.1= .exit 0∧p.2.norm ([6],[6])=mk [(6,H 6 0)] [(6,Oc [Z (W 2 e_S_Point out_o6_e0_3)])] | (.inr r2)=>p.1= .ret∧fin Tryz.prog cfg 157 Tryz.f157 [.im 2 false [.cp (u_S_Drawing d_0) 0],.im 2 false [W 1 eI ring_1]] p.2=some (B0 [(false,[.ow 0 2 (List.map e_S_Point r2.1)]),(false,[.im 0 (V r2.2)])])) hl (by kernel_rfl) ?_ ?_ ?_
 ·intro o p hp e
  rcases o with out_o6_e0_3 | r2<;>exact nomatch (hp.1.symm.trans e)
 ·rintro ⟨i_7_l3,out_o6_l3⟩ o h
  unfold spec_l05Ring_l3 at h
  dsimp only at h
  refine gs<|gs<|g0 j j (q (oMv j j)<|q (oMv j j)<|q (oLnI j j uF33 j)<|q (oBi j j j j)<|nl)<|us<|gc h j iDec (fun hc5 h=>?_) fun hc5 h=>?_
  ·refine Go.skip<|us<|gs<|Go.block<|gs<|gs<|?_
   obtain ⟨x17,hx17,h⟩:=bs h
   obtain ⟨x25,hx25,h⟩:=bs h
   refine gd c157 j j j j (mk [(0,D 2 (.cp (u_S_Drawing d_0) 0)),(1,D 2 (W 1 eI ring_1)),(6,H 6 0),(7,iv i_7_l3),(26,bv (!x25))] [(6,Oc [Z (W 2 e_S_Point out_o6_l3)])]) (t j j (oMv j j)<|t j j (oMv j j)<|t j j (oIAI j hx17 sF33 j j)<|t j j (oLd (cs:=[.im 2 _]) j tF2 j j)<|t j j (oMv j j)<|t j j (oNl j j j)<|t j j (oFA (r':=.im 2 _) j fF41_2 j j)<|t j j (oLd (cs:=[.im 2 _]) j tF38 j j)<|t j j (oLnI j j uF38 j)<|t j j (oBi j j j j)<|sS (dN z157 j (oCa (xs:=[.v false [.im 2 _],.v false [.im 0 _],.v false [.im 0 _]]) (vs:=[(false,[.im 0 _])]) (v:=.v false [.im 0 _]) (L_spec_l00In hx25) (.inl j) j kF108_2_2_2 j (ppC j (ppC j (ppC j pp0))) j j pb0 j j j)) trivial (t j j (oUn j j j)<|sD (by kernel_rfl)))<|us<|?_
   by_cases hc6:x25=true
   ·rw [if_pos hc6] at h
    refine gF j (nF (iR.2 hc6))<|Go.skip<|us<|?_
    obtain ⟨x34,hx34,h⟩:=bs h
    obtain ⟨x36,hx36,h⟩:=bs h
    obtain ⟨x39,hx39,h⟩:=bs h
    refine gd c157 j j j j (mk [(0,D 2 (.cp (u_S_Drawing d_0) 0)),(1,D 2 (W 1 eI ring_1)),(6,H 6 0),(7,iv i_7_l3)] [(6,Oc [Z (W 2 e_S_Point x39)])]) (t j j (oMv j j)<|t j j (oMv j j)<|t j j (oNl j j j)<|t j j (oFA (r':=.im 2 _) j fF41_2 j j)<|t j j (oLd (cs:=[.im 2 _]) j tF38 j j)<|t j j (oMv j j)<|t j j (oMv j j)<|t j j (oIAI j hx34 sF33 j j)<|t j j (oLd (cs:=[.im 2 _]) j tF2 j j)<|t j j (oIAI j hx36 sF38 j j)<|t j j (oLd (cs:=[.im 2 _,.im 2 _]) j tF184 j j)<|sS (dN z157 j (oBS (es:=List.map e_S_Point ([x36]:List S_Point)) j sF38 j (ptC j (fxI (fxI fx0)) j pt0) (flat0 j fun _=>j))) trivial (sS (dN z157 j (oApO (en:=e_S_Point) (M:=([x36]:List S_Point)) j hx39 j sF38 j j uF38 (.inl ⟨_,j⟩) j j j j (el_own j j) (flat0 j fun _=>j))) trivial (sS (dN z157 j (oAsO j j j j j)) trivial (sD (by kernel_rfl)))))<|Unw.blk<|us<|g0 j j (q (oMv j j)<|q (oBi j j j j)<|q (oAsI j j)<|nl)<|Unw.nil<|?_
    cases h
    exact ⟨j,(by kernel_rfl)⟩
   ·rw [if_neg hc6] at h
    refine gT j (nT (byF iR hc6))<|gs<|g0 j j (q (oAsN j j eF38)<|q (oAsI j j)<|nl)<|us<|Go.ret (Unw.ret ?_)
    cases h
    exact ⟨j,(fo rF157 j)⟩
  ·refine Go.exit<|ux<|Unw.nil<|?_
   cases h
   exact ⟨j,(by kernel_rfl)⟩
 ·rintro ⟨e,st⟩ hp
  rcases o with out_o6_e0_3 | r2
  ·dsimp only at h
   obtain ⟨he,hst⟩:=hp
   obtain rfl:e= .exit 0:=he
   refine Unw.blkx<|us<|gs<|g2 c157 j j hst (q (oMv j j)<|q (oAsO j j j j j)<|q (oAsI j j)<|nl)<|us<|Go.ret (Unw.ret ?_)
   cases h
   exact fr rF157 j
  ·dsimp only at h
   obtain ⟨he,hfin⟩:=hp
   obtain rfl:e= .ret:=he
   cases h
   exact Unw.ret (Fin_ret hfin)
theorem L_spec_l02Ok {p_0:S_Point} {r:Bool} (h:spec_l02Ok p_0=some r):FX 185 [.im 2 true (u_S_Point p_0)] (B0 [(false,[.im 0 (V r)])]):=by
 unfold spec_l02Ok at h
 refine gn 11 Tryz.func185 rfl ?_
 refine gs<|g0 j j (q (oBx j tF184 j (tkI (tkI tk0)))<|q (oAsI j j)<|nl)<|us<|gs<|?_
 obtain ⟨x5,hx5,h⟩:=bs h
 obtain ⟨t_2_m1,hm2,h⟩:=bs h
 refine gX c185 j j j (mk [(2,bv t_2_m1)] []) ?_ ?_
 ·refine xq (oFA (r':=.mp 1 0 0) j fF184_0 j j)<|xq (oLd (cs:=[.im 0 _]) j tF2 j j)<|xq (oCa (xs:=[.v false [.im 0 _],.v false [.im 0 _],.v false [.im 0 _]]) (vs:=[(false,[.im 0 _])]) (v:=.v false [.im 0 _]) (L_spec_l00In hx5) (.inl j) j kF108_2_2_2 j (ppC j (ppC j (ppC j pp0))) j j pb0 j j j)<|xq (oMv j j)<|?_
  refine ic hm2 (fun hc1 hm2=>?_) fun hc1 hm2=>?_
  ·obtain ⟨x9,hx9,hm2⟩:=bs hm2
   cases hm2
   exact xqT j j (iR.2 hc1) (oFA (r':=.mp 1 0 1) j fF184_1 j j)<|xqT j j (iR.2 hc1) (oLd (cs:=[.im 0 _]) j tF2 j j)<|xqT j j (iR.2 hc1) (oCa (xs:=[.v false [.im 0 _],.v false [.im 0 _],.v false [.im 0 _]]) (vs:=[(false,[.im 0 _])]) (v:=.v false [.im 0 _]) (L_spec_l00In hx9) (.inl j) j kF108_2_2_2 j (ppC j (ppC j (ppC j pp0))) j j pb0 j j j)<|xq (oPkT j j (iR.2 hc1) j)<|xq (oAsI j j)<|xn
  ·cases hm2
   exact xsgF j j (byF iR hc1) j<|xsgF j j (byF iR hc1) j<|xsgF j j (byF iR hc1) j<|xq (oPkF j j (byF iR hc1) j)<|xq (oAsI j j)<|xn
 ·refine us<|Go.ret (Unw.ret ?_)
  cases h
  exact fr rF185 j
theorem L_spec_l02Cross {a_0:S_Point} {b_1:S_Point} {c_2:S_Point} {r:Int} (h:spec_l02Cross a_0 b_1 c_2=some r):FX 218 [.im 2 true (u_S_Point a_0),.im 2 true (u_S_Point b_1),.im 2 true (u_S_Point c_2)] (B0 [(false,[.im 0 (I r)])]):=by
 unfold spec_l02Cross at h
 refine gn 30 Tryz.func218 rfl ?_
 refine gs<|g0 j j (q (oBx j tF184 j (tkI (tkI tk0)))<|q (oBx j tF184 j (tkI (tkI tk0)))<|q (oBx j tF184 j (tkI (tkI tk0)))<|q (oAsI j j)<|nl)<|us<|gs<|g0 j j (q (oFA (r':=.mp 4 0 0) j fF184_0 j j)<|q (oLd (cs:=[.im 0 _]) j tF2 j j)<|q (oFA (r':=.mp 3 0 0) j fF184_0 j j)<|q (oLd (cs:=[.im 0 _]) j tF2 j j)<|q (oBi j j j j)<|q (oFA (r':=.mp 5 0 1) j fF184_1 j j)<|q (oLd (cs:=[.im 0 _]) j tF2 j j)<|q (oFA (r':=.mp 3 0 1) j fF184_1 j j)<|q (oLd (cs:=[.im 0 _]) j tF2 j j)<|q (oBi j j j j)<|q (oBi j j j j)<|q (oFA (r':=.mp 4 0 1) j fF184_1 j j)<|q (oLd (cs:=[.im 0 _]) j tF2 j j)<|q (oFA (r':=.mp 3 0 1) j fF184_1 j j)<|q (oLd (cs:=[.im 0 _]) j tF2 j j)<|q (oBi j j j j)<|q (oFA (r':=.mp 5 0 0) j fF184_0 j j)<|q (oLd (cs:=[.im 0 _]) j tF2 j j)<|q (oFA (r':=.mp 3 0 0) j fF184_0 j j)<|q (oLd (cs:=[.im 0 _]) j tF2 j j)<|q (oBi j j j j)<|q (oBi j j j j)<|q (oBi j j j j)<|q (oAsI j j)<|nl)<|us<|Go.ret (Unw.ret ?_)
 cases h
 exact fr rF218 j
theorem L_spec_l02Side {a_0:S_Point} {b_1:S_Point} {c_2:S_Point} {r:Int} (h:spec_l02Side a_0 b_1 c_2=some r):FX 209 [.im 2 true (u_S_Point a_0),.im 2 true (u_S_Point b_1),.im 2 true (u_S_Point c_2)] (B0 [(false,[.im 0 (I r)])]):=by
 unfold spec_l02Side at h
 refine gn 16 Tryz.func209 rfl ?_
 refine gs<|g0 j j (q (oBx j tF184 j (tkI (tkI tk0)))<|q (oBx j tF184 j (tkI (tkI tk0)))<|q (oBx j tF184 j (tkI (tkI tk0)))<|q (oAsI j j)<|nl)<|us<|gs<|?_
 obtain ⟨x11,hx11,h⟩:=bs h
 refine g0 j j (q (oLd (cs:=[.im 0 _,.im 0 _]) j tF184 j j)<|q (oLd (cs:=[.im 0 _,.im 0 _]) j tF184 j j)<|q (oLd (cs:=[.im 0 _,.im 0 _]) j tF184 j j)<|q (oCa (xs:=[.v true [.im 0 _,.im 0 _],.v true [.im 0 _,.im 0 _],.v true [.im 0 _,.im 0 _]]) (vs:=[(false,[.im 0 _])]) (v:=.v false [.im 0 _]) (L_spec_l02Cross hx11) (.inl j) j kF218_184_184_184 j (ppC j (ppC j (ppC j pp0))) j j pb0 j j j)<|q (oAsI j j)<|nl)<|us<|gs<|gs<|g0 j j (q (oMv j j)<|q (oBi j j j j)<|nl)<|us<|gc h j iDec (fun hc1 h=>?_) fun hc1 h=>?_
 ·refine gs<|g0 j j (q (oAsI j j)<|nl)<|us<|Go.ret (Unw.ret ?_)
  cases h
  exact fr rF209 j
 ·refine Go.skip<|us<|gs<|gs<|g0 j j (q (oMv j j)<|q (oBi j j j j)<|nl)<|us<|gc h j iDec (fun hc2 h=>?_) fun hc2 h=>?_
  ·refine gs<|g0 j j (q (oAsI j j)<|nl)<|us<|Go.ret (Unw.ret ?_)
   cases h
   exact fr rF209 j
  ·refine Go.skip<|us<|gs<|g0 j j (q (oAsI j j)<|nl)<|us<|Go.ret (Unw.ret ?_)
   cases h
   exact fr rF209 j
theorem L_spec_l00Min {a_0:Int} {b_1:Int} {r:Int} (h:spec_l00Min a_0 b_1=some r):FX 193 [.im 2 false [I a_0],.im 2 false [I b_1]] (B0 [(false,[.im 0 (I r)])]):=by
 unfold spec_l00Min at h
 refine gn 10 Tryz.func193 rfl ?_
 refine gs<|g0 j j (q (oAsI j j)<|nl)<|us<|gs<|gs<|g0 j j (q (oMv j j)<|q (oMv j j)<|q (oBi j j j j)<|nl)<|us<|gc h j iDec (fun hc1 h=>?_) fun hc1 h=>?_
 ·refine gs<|g0 j j (q (oMv j j)<|q (oAsI j j)<|nl)<|us<|Go.ret (Unw.ret ?_)
  cases h
  exact fr rF193 j
 ·refine Go.skip<|us<|gs<|g0 j j (q (oMv j j)<|q (oAsI j j)<|nl)<|us<|Go.ret (Unw.ret ?_)
  cases h
  exact fr rF193 j
theorem L_spec_l00Max {a_0:Int} {b_1:Int} {r:Int} (h:spec_l00Max a_0 b_1=some r):FX 161 [.im 2 false [I a_0],.im 2 false [I b_1]] (B0 [(false,[.im 0 (I r)])]):=by
 unfold spec_l00Max at h
 refine gn 10 Tryz.func161 rfl ?_
 refine gs<|g0 j j (q (oAsI j j)<|nl)<|us<|gs<|gs<|g0 j j (q (oMv j j)<|q (oMv j j)<|q (oBi j j j j)<|nl)<|us<|gc h j iDec (fun hc1 h=>?_) fun hc1 h=>?_
 ·refine gs<|g0 j j (q (oMv j j)<|q (oAsI j j)<|nl)<|us<|Go.ret (Unw.ret ?_)
  cases h
  exact fr rF161 j
 ·refine Go.skip<|us<|gs<|g0 j j (q (oMv j j)<|q (oAsI j j)<|nl)<|us<|Go.ret (Unw.ret ?_)
  cases h
  exact fr rF161 j
theorem L_spec_l02On {a_0:S_Point} {b_1:S_Point} {p_2:S_Point} {r:Bool} (h:spec_l02On a_0 b_1 p_2=some r):FX 186 [.im 2 true (u_S_Point a_0),.im 2 true (u_S_Point b_1),.im 2 true (u_S_Point p_2)] (B0 [(false,[.im 0 (V r)])]):=by
 unfold spec_l02On at h
 refine gn 42 Tryz.func186 rfl ?_
 refine gs<|g0 j j (q (oBx j tF184 j (tkI (tkI tk0)))<|q (oBx j tF184 j (tkI (tkI tk0)))<|q (oBx j tF184 j (tkI (tkI tk0)))<|q (oAsI j j)<|nl)<|us<|gs<|?_
 obtain ⟨x10,hx10,h⟩:=bs h
 obtain ⟨t_6_m1,hm3,h⟩:=bs h
 refine gd c186 j j j j (mk [(6,bv t_6_m1)] []) ?_ ?_
 ·refine t j j (oLd (cs:=[.im 0 _,.im 0 _]) j tF184 j j)<|t j j (oLd (cs:=[.im 0 _,.im 0 _]) j tF184 j j)<|?_
  refine ic hm3 (fun hc1 hm3=>?_) fun hc1 hm3=>?_
  ·obtain ⟨x19,hx19,hm3⟩:=bs hm3
   obtain ⟨x24,hx24,hm3⟩:=bs hm3
   obtain ⟨x25,hx25,hm3⟩:=bs hm3
   refine ic hm3 (fun hc2 hm3=>?_) fun hc2 hm3=>?_
   ·obtain ⟨x34,hx34,hm3⟩:=bs hm3
    obtain ⟨x39,hx39,hm3⟩:=bs hm3
    obtain ⟨x40,hx40,hm3⟩:=bs hm3
    cases hm3
    exact t j j (oLd (cs:=[.im 0 _,.im 0 _]) j tF184 j j)<|sS (dN z186 j (oCa (xs:=[.v true [.im 0 _,.im 0 _],.v true [.im 0 _,.im 0 _],.v true [.im 0 _,.im 0 _]]) (vs:=[(false,[.im 0 _])]) (v:=.v false [.im 0 _]) (L_spec_l02Side hx10) (.inl j) j kF209_184_184_184 j (ppC j (ppC j (ppC j pp0))) j j pb0 j j j)) trivial (t j j (oBi j j j j)<|t j j (oMv j j)<|tT j j j j (iEq.2 hc1) (oFA (r':=.mp 5 0 0) j fF184_0 j j)<|tT j j j j (iEq.2 hc1) (oLd (cs:=[.im 0 _]) j tF2 j j)<|tT j j j j (iEq.2 hc1) (oFA (r':=.mp 3 0 0) j fF184_0 j j)<|tT j j j j (iEq.2 hc1) (oLd (cs:=[.im 0 _]) j tF2 j j)<|tT j j j j (iEq.2 hc1) (oFA (r':=.mp 4 0 0) j fF184_0 j j)<|tT j j j j (iEq.2 hc1) (oLd (cs:=[.im 0 _]) j tF2 j j)<|tT j j j j (iEq.2 hc1) (oFA (r':=.mp 3 0 0) j fF184_0 j j)<|tT j j j j (iEq.2 hc1) (oLd (cs:=[.im 0 _]) j tF2 j j)<|tT j j j j (iEq.2 hc1) (oFA (r':=.mp 4 0 0) j fF184_0 j j)<|tT j j j j (iEq.2 hc1) (oLd (cs:=[.im 0 _]) j tF2 j j)<|sS (dT z186 j j j (iEq.2 hc1) (oCa (xs:=[.v false [.im 0 _],.v false [.im 0 _]]) (vs:=[(false,[.im 0 _])]) (v:=.v false [.im 0 _]) (L_spec_l00Min hx19) (.inl j) j kF193_2_2 j (ppC j (ppC j pp0)) j j pb0 j j j)) trivial (sS (dT z186 j j j (iEq.2 hc1) (oCa (xs:=[.v false [.im 0 _],.v false [.im 0 _]]) (vs:=[(false,[.im 0 _])]) (v:=.v false [.im 0 _]) (L_spec_l00Max hx24) (.inl j) j kF161_2_2 j (ppC j (ppC j pp0)) j j pb0 j j j)) trivial (sS (dT z186 j j j (iEq.2 hc1) (oCa (xs:=[.v false [.im 0 _],.v false [.im 0 _],.v false [.im 0 _]]) (vs:=[(false,[.im 0 _])]) (v:=.v false [.im 0 _]) (L_spec_l00In hx25) (.inl j) j kF108_2_2_2 j (ppC j (ppC j (ppC j pp0))) j j pb0 j j j)) trivial (t j j (oPkT j j (iEq.2 hc1) j)<|t j j (oMv j j)<|tT j j j j (iR.2 hc2) (oFA (r':=.mp 5 0 1) j fF184_1 j j)<|tT j j j j (iR.2 hc2) (oLd (cs:=[.im 0 _]) j tF2 j j)<|tT j j j j (iR.2 hc2) (oFA (r':=.mp 3 0 1) j fF184_1 j j)<|tT j j j j (iR.2 hc2) (oLd (cs:=[.im 0 _]) j tF2 j j)<|tT j j j j (iR.2 hc2) (oFA (r':=.mp 4 0 1) j fF184_1 j j)<|tT j j j j (iR.2 hc2) (oLd (cs:=[.im 0 _]) j tF2 j j)<|tT j j j j (iR.2 hc2) (oFA (r':=.mp 3 0 1) j fF184_1 j j)<|tT j j j j (iR.2 hc2) (oLd (cs:=[.im 0 _]) j tF2 j j)<|tT j j j j (iR.2 hc2) (oFA (r':=.mp 4 0 1) j fF184_1 j j)<|tT j j j j (iR.2 hc2) (oLd (cs:=[.im 0 _]) j tF2 j j)<|sS (dT z186 j j j (iR.2 hc2) (oCa (xs:=[.v false [.im 0 _],.v false [.im 0 _]]) (vs:=[(false,[.im 0 _])]) (v:=.v false [.im 0 _]) (L_spec_l00Min hx34) (.inl j) j kF193_2_2 j (ppC j (ppC j pp0)) j j pb0 j j j)) trivial (sS (dT z186 j j j (iR.2 hc2) (oCa (xs:=[.v false [.im 0 _],.v false [.im 0 _]]) (vs:=[(false,[.im 0 _])]) (v:=.v false [.im 0 _]) (L_spec_l00Max hx39) (.inl j) j kF161_2_2 j (ppC j (ppC j pp0)) j j pb0 j j j)) trivial (sS (dT z186 j j j (iR.2 hc2) (oCa (xs:=[.v false [.im 0 _],.v false [.im 0 _],.v false [.im 0 _]]) (vs:=[(false,[.im 0 _])]) (v:=.v false [.im 0 _]) (L_spec_l00In hx40) (.inl j) j kF108_2_2_2 j (ppC j (ppC j (ppC j pp0))) j j pb0 j j j)) trivial (t j j (oPkT j j (iR.2 hc2) j)<|sS (dN z186 j (oAsI j j)) trivial (sD (by kernel_rfl)))))))))
   ·cases hm3
    exact t j j (oLd (cs:=[.im 0 _,.im 0 _]) j tF184 j j)<|sS (dN z186 j (oCa (xs:=[.v true [.im 0 _,.im 0 _],.v true [.im 0 _,.im 0 _],.v true [.im 0 _,.im 0 _]]) (vs:=[(false,[.im 0 _])]) (v:=.v false [.im 0 _]) (L_spec_l02Side hx10) (.inl j) j kF209_184_184_184 j (ppC j (ppC j (ppC j pp0))) j j pb0 j j j)) trivial (t j j (oBi j j j j)<|t j j (oMv j j)<|tT j j j j (iEq.2 hc1) (oFA (r':=.mp 5 0 0) j fF184_0 j j)<|tT j j j j (iEq.2 hc1) (oLd (cs:=[.im 0 _]) j tF2 j j)<|tT j j j j (iEq.2 hc1) (oFA (r':=.mp 3 0 0) j fF184_0 j j)<|tT j j j j (iEq.2 hc1) (oLd (cs:=[.im 0 _]) j tF2 j j)<|tT j j j j (iEq.2 hc1) (oFA (r':=.mp 4 0 0) j fF184_0 j j)<|tT j j j j (iEq.2 hc1) (oLd (cs:=[.im 0 _]) j tF2 j j)<|tT j j j j (iEq.2 hc1) (oFA (r':=.mp 3 0 0) j fF184_0 j j)<|tT j j j j (iEq.2 hc1) (oLd (cs:=[.im 0 _]) j tF2 j j)<|tT j j j j (iEq.2 hc1) (oFA (r':=.mp 4 0 0) j fF184_0 j j)<|tT j j j j (iEq.2 hc1) (oLd (cs:=[.im 0 _]) j tF2 j j)<|sS (dT z186 j j j (iEq.2 hc1) (oCa (xs:=[.v false [.im 0 _],.v false [.im 0 _]]) (vs:=[(false,[.im 0 _])]) (v:=.v false [.im 0 _]) (L_spec_l00Min hx19) (.inl j) j kF193_2_2 j (ppC j (ppC j pp0)) j j pb0 j j j)) trivial (sS (dT z186 j j j (iEq.2 hc1) (oCa (xs:=[.v false [.im 0 _],.v false [.im 0 _]]) (vs:=[(false,[.im 0 _])]) (v:=.v false [.im 0 _]) (L_spec_l00Max hx24) (.inl j) j kF161_2_2 j (ppC j (ppC j pp0)) j j pb0 j j j)) trivial (sS (dT z186 j j j (iEq.2 hc1) (oCa (xs:=[.v false [.im 0 _],.v false [.im 0 _],.v false [.im 0 _]]) (vs:=[(false,[.im 0 _])]) (v:=.v false [.im 0 _]) (L_spec_l00In hx25) (.inl j) j kF108_2_2_2 j (ppC j (ppC j (ppC j pp0))) j j pb0 j j j)) trivial (t j j (oPkT j j (iEq.2 hc1) j)<|t j j (oMv j j)<|tF j j j j (byF iR hc2) j<|tF j j j j (byF iR hc2) j<|tF j j j j (byF iR hc2) j<|tF j j j j (byF iR hc2) j<|tF j j j j (byF iR hc2) j<|tF j j j j (byF iR hc2) j<|tF j j j j (byF iR hc2) j<|tF j j j j (byF iR hc2) j<|tF j j j j (byF iR hc2) j<|tF j j j j (byF iR hc2) j<|sS (dF j j j (byF iR hc2) j) trivial (sS (dF j j j (byF iR hc2) j) trivial (sS (dF j j j (byF iR hc2) j) trivial (t j j (oPkF j j (byF iR hc2) j)<|sS (dN z186 j (oAsI j j)) trivial (sD (by kernel_rfl)))))))))
  ·cases hm3
   exact t j j (oLd (cs:=[.im 0 _,.im 0 _]) j tF184 j j)<|sS (dN z186 j (oCa (xs:=[.v true [.im 0 _,.im 0 _],.v true [.im 0 _,.im 0 _],.v true [.im 0 _,.im 0 _]]) (vs:=[(false,[.im 0 _])]) (v:=.v false [.im 0 _]) (L_spec_l02Side hx10) (.inl j) j kF209_184_184_184 j (ppC j (ppC j (ppC j pp0))) j j pb0 j j j)) trivial (t j j (oBi j j j j)<|t j j (oMv j j)<|tF j j j j (byF iEq hc1) j<|tF j j j j (byF iEq hc1) j<|tF j j j j (byF iEq hc1) j<|tF j j j j (byF iEq hc1) j<|tF j j j j (byF iEq hc1) j<|tF j j j j (byF iEq hc1) j<|tF j j j j (byF iEq hc1) j<|tF j j j j (byF iEq hc1) j<|tF j j j j (byF iEq hc1) j<|tF j j j j (byF iEq hc1) j<|sS (dF j j j (byF iEq hc1) j) trivial (sS (dF j j j (byF iEq hc1) j) trivial (sS (dF j j j (byF iEq hc1) j) trivial (t j j (oPkF j j (byF iEq hc1) j)<|t j j (oMv j j)<|tF j j j j j j<|tF j j j j j j<|tF j j j j j j<|tF j j j j j j<|tF j j j j j j<|tF j j j j j j<|tF j j j j j j<|tF j j j j j j<|tF j j j j j j<|tF j j j j j j<|sS (dF j j j j j) trivial (sS (dF j j j j j) trivial (sS (dF j j j j j) trivial (t j j (oPkF j j j j)<|sS (dN z186 j (oAsI j j)) trivial (sD (by kernel_rfl)))))))))
 ·refine us<|Go.ret (Unw.ret ?_)
  cases h
  exact fr rF186 j
theorem L_spec_l02Crosses {a_0:S_Point} {b_1:S_Point} {c_2:S_Point} {d_3:S_Point} {r:Bool} (h:spec_l02Crosses a_0 b_1 c_2 d_3=some r):FX 210 [.im 2 true (u_S_Point a_0),.im 2 true (u_S_Point b_1),.im 2 true (u_S_Point c_2),.im 2 true (u_S_Point d_3)] (B0 [(false,[.im 0 (V r)])]):=by
 unfold spec_l02Crosses at h
 refine gn 31 Tryz.func210 rfl ?_
 refine gs<|g0 j j (q (oBx j tF184 j (tkI (tkI tk0)))<|q (oBx j tF184 j (tkI (tkI tk0)))<|q (oBx j tF184 j (tkI (tkI tk0)))<|q (oBx j tF184 j (tkI (tkI tk0)))<|q (oAsI j j)<|nl)<|us<|gs<|?_
 obtain ⟨x12,hx12,h⟩:=bs h
 obtain ⟨x16,hx16,h⟩:=bs h
 obtain ⟨t_8_m1,hm2,h⟩:=bs h
 refine gd c210 j j j j (mk [(8,bv t_8_m1)] []) ?_ ?_
 ·refine t j j (oLd (cs:=[.im 0 _,.im 0 _]) j tF184 j j)<|t j j (oLd (cs:=[.im 0 _,.im 0 _]) j tF184 j j)<|t j j (oLd (cs:=[.im 0 _,.im 0 _]) j tF184 j j)<|t j j (oLd (cs:=[.im 0 _,.im 0 _]) j tF184 j j)<|t j j (oLd (cs:=[.im 0 _,.im 0 _]) j tF184 j j)<|?_
  refine ic hm2 (fun hc1 hm2=>?_) fun hc1 hm2=>?_
  ·obtain ⟨x23,hx23,hm2⟩:=bs hm2
   obtain ⟨x27,hx27,hm2⟩:=bs hm2
   cases hm2
   exact t j j (oLd (cs:=[.im 0 _,.im 0 _]) j tF184 j j)<|sS (dN z210 j (oCa (xs:=[.v true [.im 0 _,.im 0 _],.v true [.im 0 _,.im 0 _],.v true [.im 0 _,.im 0 _]]) (vs:=[(false,[.im 0 _])]) (v:=.v false [.im 0 _]) (L_spec_l02Side hx12) (.inl j) j kF209_184_184_184 j (ppC j (ppC j (ppC j pp0))) j j pb0 j j j)) trivial (sS (dN z210 j (oCa (xs:=[.v true [.im 0 _,.im 0 _],.v true [.im 0 _,.im 0 _],.v true [.im 0 _,.im 0 _]]) (vs:=[(false,[.im 0 _])]) (v:=.v false [.im 0 _]) (L_spec_l02Side hx16) (.inl j) j kF209_184_184_184 j (ppC j (ppC j (ppC j pp0))) j j pb0 j j j)) trivial (t j j (oBi j j j j)<|t j j (oBi j j j j)<|t j j (oMv j j)<|tT j j j j (iDec.2 hc1) (oLd (cs:=[.im 0 _,.im 0 _]) j tF184 j j)<|tT j j j j (iDec.2 hc1) (oLd (cs:=[.im 0 _,.im 0 _]) j tF184 j j)<|tT j j j j (iDec.2 hc1) (oLd (cs:=[.im 0 _,.im 0 _]) j tF184 j j)<|tT j j j j (iDec.2 hc1) (oLd (cs:=[.im 0 _,.im 0 _]) j tF184 j j)<|tT j j j j (iDec.2 hc1) (oLd (cs:=[.im 0 _,.im 0 _]) j tF184 j j)<|tT j j j j (iDec.2 hc1) (oLd (cs:=[.im 0 _,.im 0 _]) j tF184 j j)<|sS (dT z210 j j j (iDec.2 hc1) (oCa (xs:=[.v true [.im 0 _,.im 0 _],.v true [.im 0 _,.im 0 _],.v true [.im 0 _,.im 0 _]]) (vs:=[(false,[.im 0 _])]) (v:=.v false [.im 0 _]) (L_spec_l02Side hx23) (.inl j) j kF209_184_184_184 j (ppC j (ppC j (ppC j pp0))) j j pb0 j j j)) trivial (sS (dT z210 j j j (iDec.2 hc1) (oCa (xs:=[.v true [.im 0 _,.im 0 _],.v true [.im 0 _,.im 0 _],.v true [.im 0 _,.im 0 _]]) (vs:=[(false,[.im 0 _])]) (v:=.v false [.im 0 _]) (L_spec_l02Side hx27) (.inl j) j kF209_184_184_184 j (ppC j (ppC j (ppC j pp0))) j j pb0 j j j)) trivial (tT j j j j (iDec.2 hc1) (oBi j j j j)<|tT j j j j (iDec.2 hc1) (oBi j j j j)<|t j j (oPkT j j (iDec.2 hc1) j)<|sS (dN z210 j (oAsI j j)) trivial (sD (by kernel_rfl))))))
  ·cases hm2
   exact t j j (oLd (cs:=[.im 0 _,.im 0 _]) j tF184 j j)<|sS (dN z210 j (oCa (xs:=[.v true [.im 0 _,.im 0 _],.v true [.im 0 _,.im 0 _],.v true [.im 0 _,.im 0 _]]) (vs:=[(false,[.im 0 _])]) (v:=.v false [.im 0 _]) (L_spec_l02Side hx12) (.inl j) j kF209_184_184_184 j (ppC j (ppC j (ppC j pp0))) j j pb0 j j j)) trivial (sS (dN z210 j (oCa (xs:=[.v true [.im 0 _,.im 0 _],.v true [.im 0 _,.im 0 _],.v true [.im 0 _,.im 0 _]]) (vs:=[(false,[.im 0 _])]) (v:=.v false [.im 0 _]) (L_spec_l02Side hx16) (.inl j) j kF209_184_184_184 j (ppC j (ppC j (ppC j pp0))) j j pb0 j j j)) trivial (t j j (oBi j j j j)<|t j j (oBi j j j j)<|t j j (oMv j j)<|tF j j j j (byF iDec hc1) j<|tF j j j j (byF iDec hc1) j<|tF j j j j (byF iDec hc1) j<|tF j j j j (byF iDec hc1) j<|tF j j j j (byF iDec hc1) j<|tF j j j j (byF iDec hc1) j<|sS (dF j j j (byF iDec hc1) j) trivial (sS (dF j j j (byF iDec hc1) j) trivial (tF j j j j (byF iDec hc1) j<|tF j j j j (byF iDec hc1) j<|t j j (oPkF j j (byF iDec hc1) j)<|sS (dN z210 j (oAsI j j)) trivial (sD (by kernel_rfl))))))
 ·refine us<|Go.ret (Unw.ret ?_)
  cases h
  exact fr rF210 j
theorem L_spec_l03Meet {a_0:S_Point} {b_1:S_Point} {c_2:S_Point} {d_3:S_Point} {r:Bool} (h:spec_l03Meet a_0 b_1 c_2 d_3=some r):FX 187 [.im 2 true (u_S_Point a_0),.im 2 true (u_S_Point b_1),.im 2 true (u_S_Point c_2),.im 2 true (u_S_Point d_3)] (B0 [(false,[.im 0 (V r)])]):=by
 unfold spec_l03Meet at h
 refine gn 38 Tryz.func187 rfl ?_
 refine gs<|g0 j j (q (oBx j tF184 j (tkI (tkI tk0)))<|q (oBx j tF184 j (tkI (tkI tk0)))<|q (oBx j tF184 j (tkI (tkI tk0)))<|q (oBx j tF184 j (tkI (tkI tk0)))<|q (oAsI j j)<|nl)<|us<|gs<|?_
 obtain ⟨x13,hx13,h⟩:=bs h
 obtain ⟨t_8_m1,hm5,h⟩:=bs h
 refine gX c187 j j j (mk [(8,bv t_8_m1)] []) ?_ ?_
 ·refine xq (oLd (cs:=[.im 0 _,.im 0 _]) j tF184 j j)<|xq (oLd (cs:=[.im 0 _,.im 0 _]) j tF184 j j)<|xq (oLd (cs:=[.im 0 _,.im 0 _]) j tF184 j j)<|xq (oLd (cs:=[.im 0 _,.im 0 _]) j tF184 j j)<|xq (oCa (xs:=[.v true [.im 0 _,.im 0 _],.v true [.im 0 _,.im 0 _],.v true [.im 0 _,.im 0 _],.v true [.im 0 _,.im 0 _]]) (vs:=[(false,[.im 0 _])]) (v:=.v false [.im 0 _]) (L_spec_l02Crosses hx13) (.inl j) j kF210_184_184_184_184 j (ppC j (ppC j (ppC j (ppC j pp0)))) j j pb0 j j j)<|xq (oMv j j)<|?_
  refine ic hm5 (fun hc1 hm5=>?_) fun hc1 hm5=>?_
  ·cases hm5
   exact xsgF j j (iR.2 hc1) j<|xsgF j j (iR.2 hc1) j<|xsgF j j (iR.2 hc1) j<|xsgF j j (iR.2 hc1) j<|xq (oPkT j j (iR.2 hc1) j)<|xq (oMv j j)<|xsgF j j j j<|xsgF j j j j<|xsgF j j j j<|xsgF j j j j<|xq (oPkT j j j j)<|xq (oMv j j)<|xsgF j j j j<|xsgF j j j j<|xsgF j j j j<|xsgF j j j j<|xq (oPkT j j j j)<|xq (oMv j j)<|xsgF j j j j<|xsgF j j j j<|xsgF j j j j<|xsgF j j j j<|xq (oPkT j j j j)<|xq (oAsI j j)<|xn
  ·obtain ⟨x18,hx18,hm5⟩:=bs hm5
   refine xqT j j (byF iR hc1) (oLd (cs:=[.im 0 _,.im 0 _]) j tF184 j j)<|xqT j j (byF iR hc1) (oLd (cs:=[.im 0 _,.im 0 _]) j tF184 j j)<|xqT j j (byF iR hc1) (oLd (cs:=[.im 0 _,.im 0 _]) j tF184 j j)<|xqT j j (byF iR hc1) (oCa (xs:=[.v true [.im 0 _,.im 0 _],.v true [.im 0 _,.im 0 _],.v true [.im 0 _,.im 0 _]]) (vs:=[(false,[.im 0 _])]) (v:=.v false [.im 0 _]) (L_spec_l02On hx18) (.inl j) j kF186_184_184_184 j (ppC j (ppC j (ppC j pp0))) j j pb0 j j j)<|xq (oPkF j j (byF iR hc1) j)<|xq (oMv j j)<|?_
   refine ic hm5 (fun hc2 hm5=>?_) fun hc2 hm5=>?_
   ·cases hm5
    exact xsgF j j (iR.2 hc2) j<|xsgF j j (iR.2 hc2) j<|xsgF j j (iR.2 hc2) j<|xsgF j j (iR.2 hc2) j<|xq (oPkT j j (iR.2 hc2) j)<|xq (oMv j j)<|xsgF j j j j<|xsgF j j j j<|xsgF j j j j<|xsgF j j j j<|xq (oPkT j j j j)<|xq (oMv j j)<|xsgF j j j j<|xsgF j j j j<|xsgF j j j j<|xsgF j j j j<|xq (oPkT j j j j)<|xq (oAsI j j)<|xn
   ·obtain ⟨x24,hx24,hm5⟩:=bs hm5
    refine xqT j j (byF iR hc2) (oLd (cs:=[.im 0 _,.im 0 _]) j tF184 j j)<|xqT j j (byF iR hc2) (oLd (cs:=[.im 0 _,.im 0 _]) j tF184 j j)<|xqT j j (byF iR hc2) (oLd (cs:=[.im 0 _,.im 0 _]) j tF184 j j)<|xqT j j (byF iR hc2) (oCa (xs:=[.v true [.im 0 _,.im 0 _],.v true [.im 0 _,.im 0 _],.v true [.im 0 _,.im 0 _]]) (vs:=[(false,[.im 0 _])]) (v:=.v false [.im 0 _]) (L_spec_l02On hx24) (.inl j) j kF186_184_184_184 j (ppC j (ppC j (ppC j pp0))) j j pb0 j j j)<|xq (oPkF j j (byF iR hc2) j)<|xq (oMv j j)<|?_
    refine ic hm5 (fun hc3 hm5=>?_) fun hc3 hm5=>?_
    ·cases hm5
     exact xsgF j j (iR.2 hc3) j<|xsgF j j (iR.2 hc3) j<|xsgF j j (iR.2 hc3) j<|xsgF j j (iR.2 hc3) j<|xq (oPkT j j (iR.2 hc3) j)<|xq (oMv j j)<|xsgF j j j j<|xsgF j j j j<|xsgF j j j j<|xsgF j j j j<|xq (oPkT j j j j)<|xq (oAsI j j)<|xn
    ·obtain ⟨x30,hx30,hm5⟩:=bs hm5
     refine xqT j j (byF iR hc3) (oLd (cs:=[.im 0 _,.im 0 _]) j tF184 j j)<|xqT j j (byF iR hc3) (oLd (cs:=[.im 0 _,.im 0 _]) j tF184 j j)<|xqT j j (byF iR hc3) (oLd (cs:=[.im 0 _,.im 0 _]) j tF184 j j)<|xqT j j (byF iR hc3) (oCa (xs:=[.v true [.im 0 _,.im 0 _],.v true [.im 0 _,.im 0 _],.v true [.im 0 _,.im 0 _]]) (vs:=[(false,[.im 0 _])]) (v:=.v false [.im 0 _]) (L_spec_l02On hx30) (.inl j) j kF186_184_184_184 j (ppC j (ppC j (ppC j pp0))) j j pb0 j j j)<|xq (oPkF j j (byF iR hc3) j)<|xq (oMv j j)<|?_
     refine ic hm5 (fun hc4 hm5=>?_) fun hc4 hm5=>?_
     ·cases hm5
      exact xsgF j j (iR.2 hc4) j<|xsgF j j (iR.2 hc4) j<|xsgF j j (iR.2 hc4) j<|xsgF j j (iR.2 hc4) j<|xq (oPkT j j (iR.2 hc4) j)<|xq (oAsI j j)<|xn
     ·obtain ⟨x36,hx36,hm5⟩:=bs hm5
      cases hm5
      exact xqT j j (byF iR hc4) (oLd (cs:=[.im 0 _,.im 0 _]) j tF184 j j)<|xqT j j (byF iR hc4) (oLd (cs:=[.im 0 _,.im 0 _]) j tF184 j j)<|xqT j j (byF iR hc4) (oLd (cs:=[.im 0 _,.im 0 _]) j tF184 j j)<|xqT j j (byF iR hc4) (oCa (xs:=[.v true [.im 0 _,.im 0 _],.v true [.im 0 _,.im 0 _],.v true [.im 0 _,.im 0 _]]) (vs:=[(false,[.im 0 _])]) (v:=.v false [.im 0 _]) (L_spec_l02On hx36) (.inl j) j kF186_184_184_184 j (ppC j (ppC j (ppC j pp0))) j j pb0 j j j)<|xq (oPkF j j (byF iR hc4) j)<|xq (oAsI j j)<|xn
 ·refine us<|Go.ret (Unw.ret ?_)
  cases h
  exact fr rF187 j
theorem L_spec_l03Area {p_0:(List S_Point)} {r:Int} (h:spec_l03Area p_0=some r):FX 188 [.im 2 false [W 2 e_S_Point p_0]] (B0 [(false,[.im 0 (I r)])]):=by
 unfold spec_l03Area at h
 refine gn 40 Tryz.func188 rfl ?_
 refine gs<|g0 j j (q (oAsI j j)<|nl)<|us<|gs<|g0 j j (q (oAsI j j)<|nl)<|us<|gs<|gs<|g0 j j (q (oAsI j j)<|nl)<|us<|Go.block<|?_
 obtain ⟨o,hl,h⟩:=bs h
 refine gl c188 j _ (fun (s:(Int×Int))=>match s with | (sum_3_l3,i_4_l3)=>mk [(0,D 2 (W 2 e_S_Point p_0)),(3,iv sum_3_l3),(4,iv i_4_l3)] []) (fun (sum_3_e0_3:Int) (p:Ex×St)=>p.1= .exit 0∧p.2.norm ([3],[])=mk [(3,iv sum_3_e0_3)] []) hl (by kernel_rfl) ?_ ?_ ?_
 ·intro o p hp e
  exact nomatch (hp.1.symm.trans e)
 ·rintro ⟨sum_3_l3,i_4_l3⟩ o h
  unfold spec_l03Area_l3 at h
  dsimp only at h
  refine gs<|gs<|g0 j j (q (oMv j j)<|q (oMv j j)<|q (oLnI j j uF38 j)<|q (oBi j j j j)<|nl)<|us<|gc h j iDec (fun hc3 h=>?_) fun hc3 h=>?_
  ·refine Go.skip<|us<|gs<|Go.block<|gs<|?_
   obtain ⟨x17,hx17,h⟩:=bs h
   obtain ⟨x18,hx18,h⟩:=bs h
   refine g0 j j (q (oMv j j)<|q (oMv j j)<|q (oBi j j j j)<|q (oMv j j)<|q (oLnI j j uF38 j)<|q (oRem j hx17 j j)<|q (oIAI j hx18 sF38 j j)<|q (oLd (cs:=[.im 2 _,.im 2 _]) j tF184 j j)<|q (oAl j tF184 (tkI (tkI tk0)))<|q (oSt tF184 j j j (tkI (tkI tk0)) j j j)<|nl)<|us<|?_
   obtain ⟨x23,hx23,h⟩:=bs h
   obtain ⟨x31,hx31,h⟩:=bs h
   refine gd c188 j j j (st1:=mk [(0,D 2 (W 2 e_S_Point p_0)),(3,iv sum_3_l3),(4,iv i_4_l3),(5,M 5)] [(5,Oa (G 0 (u_S_Point x18)))]) (by kernel_rfl) (mk [(0,D 2 (W 2 e_S_Point p_0)),(3,iv (w64 (sum_3_l3+(w64 ((w64 (x23.X*x18.Y)) - (w64 (x31.Y*x18.X))))))),(4,iv i_4_l3)] []) (t j j (oMv j j)<|t j j (oMv j j)<|t j j (oMv j j)<|t j j (oIAI j hx23 sF38 j j)<|t j j (oFA (r':=.im 2 _) j fF184_0 j j)<|t j j (oLd (cs:=[.im 2 _]) j tF2 j j)<|t j j (oFA (r':=.mp 5 0 1) j fF184_1 j j)<|t j j (oLd (cs:=[.im 0 _]) j tF2 j j)<|t j j (oBi j j j j)<|t j j (oMv j j)<|t j j (oMv j j)<|t j j (oIAI j hx31 sF38 j j)<|t j j (oFA (r':=.im 2 _) j fF184_1 j j)<|t j j (oLd (cs:=[.im 2 _]) j tF2 j j)<|t j j (oFA (r':=.mp 5 0 0) j fF184_0 j j)<|t j j (oLd (cs:=[.im 0 _]) j tF2 j j)<|t j j (oBi j j j j)<|t j j (oBi j j j j)<|t j j (oBi j j j j)<|sS (dN z188 j (oAsI j j)) trivial (sD (by kernel_rfl)))<|Unw.blk<|us<|g0 j j (q (oMv j j)<|q (oBi j j j j)<|q (oAsI j j)<|nl)<|Unw.nil<|?_
   cases h
   exact ⟨j,(by kernel_rfl)⟩
  ·refine Go.exit<|ux<|Unw.nil<|?_
   cases h
   exact ⟨j,(by kernel_rfl)⟩
 ·rintro ⟨e,st⟩ hp
  obtain ⟨sum_3_e0_3,rfl⟩:∃y,y=o:=⟨o,rfl⟩
  obtain ⟨he,hst⟩:=hp
  obtain rfl:e= .exit 0:=he
  refine Unw.blkx<|us<|gs<|g2 c188 j j hst (q (oMv j j)<|q (oAsI j j)<|nl)<|us<|Go.ret (Unw.ret ?_)
  cases h
  exact fr rF188 j
theorem L_spec_l03Ok {p_0:(List S_Point)} {r:Bool} (h:spec_l03Ok p_0=some r):FX 158 [.im 2 false [W 2 e_S_Point p_0]] (B0 [(false,[.im 0 (V r)])]):=by
 unfold spec_l03Ok at h
 refine gn 99 Tryz.func158 rfl ?_
 refine gs<|g0 j j (q (oAsI j j)<|nl)<|us<|gs<|g0 j j (q (oMv j j)<|q (oLnI j j uF38 j)<|q (oAsI j j)<|nl)<|us<|gs<|gs<|gX c158 j j j (mk [(0,D 2 (W 2 e_S_Point p_0)),(3,iv (p_0.length:Int)),(17,bv ((decide ((p_0.length:Int) <3))||(decide ((p_0.length:Int) >24))))] []) ?_ ?_
 ·refine xq (oMv j j)<|xq (oBi j j j j)<|xq (oMv j j)<|?_
  by_cases hc1:(p_0.length:Int) <3
  ·exact xsgF rfl rfl (iDec.2 hc1) rfl<|xsgF rfl rfl (iDec.2 hc1) rfl<|xq (oPkT rfl rfl (iDec.2 hc1) rfl)<|xn (Eq.trans (b:=(fun t_17_m2:Bool=>mk [(0,D 2 (W 2 e_S_Point p_0)),(3,iv (p_0.length:Int)),(17,bv t_17_m2)] []) true) (by kernel_rfl) (congrArg (fun t_17_m2:Bool=>mk [(0,D 2 (W 2 e_S_Point p_0)),(3,iv (p_0.length:Int)),(17,bv t_17_m2)] []) (by first | rfl | (simp [(iDec.2 hc1)];done) | (simp [(iDec.2 hc1)];omega))))
  ·exact xqT rfl rfl (byF iDec hc1) (oMv rfl rfl)<|xqT rfl rfl (byF iDec hc1) (oBi rfl rfl rfl rfl)<|xq (oPkF rfl rfl (byF iDec hc1) rfl)<|xn (Eq.trans (b:=(fun t_17_m2:Bool=>mk [(0,D 2 (W 2 e_S_Point p_0)),(3,iv (p_0.length:Int)),(17,bv t_17_m2)] []) (decide ((p_0.length:Int) >24))) (by kernel_rfl) (congrArg (fun t_17_m2:Bool=>mk [(0,D 2 (W 2 e_S_Point p_0)),(3,iv (p_0.length:Int)),(17,bv t_17_m2)] []) (by first | rfl | (simp [(byF iDec hc1)];done) | (simp [(byF iDec hc1)];omega))))
 ·refine us<|gc h j (iOr iDec iDec) (fun hc2 h=>?_) fun hc2 h=>?_
  ·refine gs<|g0 j j (q (oAsI j j)<|nl)<|us<|Go.ret (Unw.ret ?_)
   cases h
   exact fr rF158 j
  ·refine Go.skip<|us<|gs<|gs<|g0 j j (q (oAsI j j)<|nl)<|us<|Go.block<|?_
   obtain ⟨o,hl,h⟩:=bs h
   refine gl c158 j _ (fun (i_4_l5:Int)=>mk [(0,D 2 (W 2 e_S_Point p_0)),(3,iv (p_0.length:Int)),(4,iv i_4_l5)] []) (fun (o:(Unit ⊕ Bool)) (p:Ex×St)=>match o with | (.inl _)=>p.1= .exit 0∧p.2.norm ([0,3],[])=mk [(0,D 2 (W 2 e_S_Point p_0)),(3,iv (p_0.length:Int))] [] | (.inr r2)=>p.1= .ret∧fin Tryz.prog cfg 158 Tryz.f158 [.im 2 false [W 2 e_S_Point p_0]] p.2=some (B0 [(false,[.im 0 (V r2)])])) hl (by kernel_rfl) ?_ ?_ ?_
   ·intro o p hp e
    rcases o with u | r2<;>exact nomatch (hp.1.symm.trans e)
   ·rintro i_4_l5 o h
    unfold spec_l03Ok_l5 at h
    refine gs<|gs<|g0 j j (q (oMv j j)<|q (oMv j j)<|q (oBi j j j j)<|nl)<|us<|gc h j iDec (fun hc50 h=>?_) fun hc50 h=>?_
    ·refine Go.skip<|us<|gs<|Go.block<|gs<|?_
     obtain ⟨x25,hx25,h⟩:=bs h
     obtain ⟨x27,hx27,h⟩:=bs h
     refine g0 j j (q (oMv j j)<|q (oMv j j)<|q (oIAI j hx25 sF38 j j)<|q (oLd (cs:=[.im 2 _,.im 2 _]) j tF184 j j)<|q (oCa (xs:=[.v true [.im 2 _,.im 2 _]]) (vs:=[(false,[.im 0 _])]) (v:=.v false [.im 0 _]) (L_spec_l02Ok hx27) (.inl j) j kF185_184 j (ppC j pp0) j j pb0 j j j)<|q (oUn j j j)<|nl)<|us<|?_
     by_cases hc51:x27=true
     ·rw [if_pos hc51] at h
      refine gF j (nF (iR.2 hc51))<|Go.skip<|Unw.blk<|us<|g0 j j (q (oMv j j)<|q (oBi j j j j)<|q (oAsI j j)<|nl)<|Unw.nil<|?_
      cases h
      exact ⟨j,(by kernel_rfl)⟩
     ·rw [if_neg hc51] at h
      refine gT j (nT (byF iR hc51))<|gs<|g0 j j (q (oAsI j j)<|nl)<|us<|Go.ret (Unw.ret ?_)
      cases h
      exact ⟨j,(fo rF158 j)⟩
    ·refine Go.exit<|ux<|Unw.nil<|?_
     cases h
     exact ⟨j,(by kernel_rfl)⟩
   ·rintro ⟨e,st⟩ hp
    rcases o with u | r2
    ·dsimp only at h
     obtain ⟨he,hst⟩:=hp
     obtain rfl:e= .exit 0:=he
     refine Unw.blkx<|us<|gs<|gs<|g2 c158 j j hst (q (oAsI j j)<|nl)<|us<|Go.block<|?_
     obtain ⟨o,hl,h⟩:=bs h
     refine gl c158 j _ (fun (i_5_l10:Int)=>mk [(0,D 2 (W 2 e_S_Point p_0)),(3,iv (p_0.length:Int)),(5,iv i_5_l10)] []) (fun (o:(Unit ⊕ Bool)) (p:Ex×St)=>match o with | (.inl _)=>p.1= .exit 2∧p.2.norm ([0],[])=mk [(0,D 2 (W 2 e_S_Point p_0))] [] | (.inr r2)=>p.1= .ret∧fin Tryz.prog cfg 158 Tryz.f158 [.im 2 false [W 2 e_S_Point p_0]] p.2=some (B0 [(false,[.im 0 (V r2)])])) hl (by kernel_rfl) ?_ ?_ ?_
     ·intro o p hp e
      rcases o with u | r2<;>exact nomatch (hp.1.symm.trans e)
     ·rintro i_5_l10 o h
      unfold spec_l03Ok_l10 at h
      refine gs<|gs<|g0 j j (q (oMv j j)<|q (oMv j j)<|q (oBi j j j j)<|nl)<|us<|gc h j iDec (fun hc33 h=>?_) fun hc33 h=>?_
      ·refine Go.skip<|us<|gs<|Go.block<|gs<|?_
       obtain ⟨x36,hx36,h⟩:=bs h
       refine g0 j j (q (oMv j j)<|q (oMv j j)<|q (oIAI j hx36 sF38 j j)<|q (oLd (cs:=[.im 2 _,.im 2 _]) j tF184 j j)<|q (oAl j tF184 (tkI (tkI tk0)))<|q (oSt tF184 j j j (tkI (tkI tk0)) j j j)<|nl)<|us<|gs<|?_
       obtain ⟨x42,hx42,h⟩:=bs h
       obtain ⟨x43,hx43,h⟩:=bs h
       refine g1 j j (mk [(0,D 2 (W 2 e_S_Point p_0)),(3,iv (p_0.length:Int)),(5,iv i_5_l10),(6,M 6)] [(6,Oa (G 0 (u_S_Point x36)))]) (q (oMv j j)<|q (oMv j j)<|q (oBi j j j j)<|q (oMv j j)<|q (oRem j hx42 j j)<|q (oIAI j hx43 sF38 j j)<|q (oLd (cs:=[.im 2 _,.im 2 _]) j tF184 j j)<|q (oAl j tF184 (tkI (tkI tk0)))<|q (oSt tF184 j j j (tkI (tkI tk0)) j j j)<|nl)<|us<|gs<|?_
       obtain ⟨x49,hx49,h⟩:=bs h
       obtain ⟨x50,hx50,h⟩:=bs h
       refine g1 j j (mk [(0,D 2 (W 2 e_S_Point p_0)),(3,iv (p_0.length:Int)),(5,iv i_5_l10),(6,M 6),(7,M 7)] [(6,Oa (G 0 (u_S_Point x36))),(7,Oa (G 0 (u_S_Point x43)))]) (q (oMv j j)<|q (oMv j j)<|q (oBi j j j j)<|q (oMv j j)<|q (oRem j hx49 j j)<|q (oIAI j hx50 sF38 j j)<|q (oLd (cs:=[.im 2 _,.im 2 _]) j tF184 j j)<|q (oAl j tF184 (tkI (tkI tk0)))<|q (oSt tF184 j j j (tkI (tkI tk0)) j j j)<|nl)<|us<|gs<|gs<|?_
       obtain ⟨t_66_m15,hm49,h⟩:=bs h
       refine gX c158 j j (st1:=mk [(0,D 2 (W 2 e_S_Point p_0)),(3,iv (p_0.length:Int)),(5,iv i_5_l10),(6,M 6),(7,M 7),(8,M 8)] [(6,Oa (G 0 (u_S_Point x36))),(7,Oa (G 0 (u_S_Point x43))),(8,Oa (G 0 (u_S_Point x50)))]) (by kernel_rfl) (mk [(0,D 2 (W 2 e_S_Point p_0)),(3,iv (p_0.length:Int)),(5,iv i_5_l10),(6,M 6),(7,M 7),(66,bv t_66_m15)] [(6,Oa (G 0 (u_S_Point x36))),(7,Oa (G 0 (u_S_Point x43)))]) ?_ ?_
       ·refine xq (oLd (cs:=[.im 0 _,.im 0 _]) j tF184 j j)<|xq (oLd (cs:=[.im 0 _,.im 0 _]) j tF184 j j)<|xq (oBa j (qEF184 x36.X x36.Y x43.X x43.Y) j j j j)<|xq (oMv j j)<|?_
        refine ic hm49 (fun hc34 hm49=>?_) fun hc34 hm49=>?_
        ·cases hm49
         exact xsgF j j ((iAnd iEq iEq).2 hc34) j<|xsgF j j ((iAnd iEq iEq).2 hc34) j<|xsgF j j ((iAnd iEq iEq).2 hc34) j<|xsgF j j ((iAnd iEq iEq).2 hc34) j<|xq (oPkT j j ((iAnd iEq iEq).2 hc34) j)<|xq (oMv j j)<|xsgF j j j j<|xsgF j j j j<|xsgF j j j j<|xsgF j j j j<|xq (oPkT j j j j)<|xn
        ·obtain ⟨x59,hx59,hm49⟩:=bs hm49
         refine xqT j j (byF (iAnd iEq iEq) hc34) (oLd (cs:=[.im 0 _,.im 0 _]) j tF184 j j)<|xqT j j (byF (iAnd iEq iEq) hc34) (oLd (cs:=[.im 0 _,.im 0 _]) j tF184 j j)<|xqT j j (byF (iAnd iEq iEq) hc34) (oLd (cs:=[.im 0 _,.im 0 _]) j tF184 j j)<|xqT j j (byF (iAnd iEq iEq) hc34) (oCa (xs:=[.v true [.im 0 _,.im 0 _],.v true [.im 0 _,.im 0 _],.v true [.im 0 _,.im 0 _]]) (vs:=[(false,[.im 0 _])]) (v:=.v false [.im 0 _]) (L_spec_l02On hx59) (.inl j) j kF186_184_184_184 j (ppC j (ppC j (ppC j pp0))) j j pb0 j j j)<|xq (oPkF j j (byF (iAnd iEq iEq) hc34) j)<|xq (oMv j j)<|?_
         refine ic hm49 (fun hc35 hm49=>?_) fun hc35 hm49=>?_
         ·cases hm49
          exact xsgF j j (iR.2 hc35) j<|xsgF j j (iR.2 hc35) j<|xsgF j j (iR.2 hc35) j<|xsgF j j (iR.2 hc35) j<|xq (oPkT j j (iR.2 hc35) j)<|xn
         ·obtain ⟨x65,hx65,hm49⟩:=bs hm49
          cases hm49
          exact xqT j j (byF iR hc35) (oLd (cs:=[.im 0 _,.im 0 _]) j tF184 j j)<|xqT j j (byF iR hc35) (oLd (cs:=[.im 0 _,.im 0 _]) j tF184 j j)<|xqT j j (byF iR hc35) (oLd (cs:=[.im 0 _,.im 0 _]) j tF184 j j)<|xqT j j (byF iR hc35) (oCa (xs:=[.v true [.im 0 _,.im 0 _],.v true [.im 0 _,.im 0 _],.v true [.im 0 _,.im 0 _]]) (vs:=[(false,[.im 0 _])]) (v:=.v false [.im 0 _]) (L_spec_l02On hx65) (.inl j) j kF186_184_184_184 j (ppC j (ppC j (ppC j pp0))) j j pb0 j j j)<|xq (oPkF j j (byF iR hc35) j)<|xn
       ·refine us<|gc h j iR (fun hc36 h=>?_) fun hc36 h=>?_
        ·refine gs<|g0 j j (q (oAsI j j)<|nl)<|us<|Go.ret (Unw.ret ?_)
         cases h
         exact ⟨j,(fo rF158 j)⟩
        ·refine Go.skip<|us<|gs<|g0 j j (q (oMv j j)<|q (oBi j j j j)<|q (oAsI j j)<|nl)<|us<|Go.block<|?_
         obtain ⟨o,hl,h⟩:=bs h
         refine gl c158 j _ (fun (k_9_l18:Int)=>mk [(0,D 2 (W 2 e_S_Point p_0)),(3,iv (p_0.length:Int)),(5,iv i_5_l10),(6,M 6),(7,M 7),(9,iv k_9_l18)] [(6,Oa (G 0 (u_S_Point x36))),(7,Oa (G 0 (u_S_Point x43)))]) (fun (o:(Unit ⊕ Bool)) (p:Ex×St)=>match o with | (.inl _)=>p.1= .exit 4∧p.2.norm ([0,3,5],[])=mk [(0,D 2 (W 2 e_S_Point p_0)),(3,iv (p_0.length:Int)),(5,iv i_5_l10)] [] | (.inr r2)=>p.1= .ret∧fin Tryz.prog cfg 158 Tryz.f158 [.im 2 false [W 2 e_S_Point p_0]] p.2=some (B0 [(false,[.im 0 (V r2)])])) hl (by kernel_rfl) ?_ ?_ ?_
         ·intro o p hp e
          rcases o with u | r2<;>exact nomatch (hp.1.symm.trans e)
         ·rintro k_9_l18 o h
          unfold spec_l03Ok_l18 at h
          refine gs<|gs<|g0 j j (q (oMv j j)<|q (oMv j j)<|q (oBi j j j j)<|nl)<|us<|gc h j iDec (fun hc45 h=>?_) fun hc45 h=>?_
          ·refine Go.skip<|us<|gs<|Go.block<|gs<|?_
           obtain ⟨x77,hx77,h⟩:=bs h
           obtain ⟨t_95_m20,hm48,h⟩:=bs h
           refine gd c158 j j j j (mk [(0,D 2 (W 2 e_S_Point p_0)),(3,iv (p_0.length:Int)),(5,iv i_5_l10),(6,M 6),(7,M 7),(9,iv k_9_l18),(95,bv t_95_m20)] [(6,Oa (G 0 (u_S_Point x36))),(7,Oa (G 0 (u_S_Point x43)))]) ?_ ?_
           ·refine t j j (oMv j j)<|t j j (oBi j j j j)<|t j j (oMv j j)<|t j j (oRem j hx77 j j)<|t j j (oMv j j)<|t j j (oBi j j j j)<|t j j (oMv j j)<|?_
            refine ic hm48 (fun hc46 hm48=>?_) fun hc46 hm48=>?_
            ·obtain ⟨x85,hx85,hm48⟩:=bs hm48
             obtain ⟨x91,hx91,hm48⟩:=bs hm48
             obtain ⟨x92,hx92,hm48⟩:=bs hm48
             obtain ⟨x94,hx94,hm48⟩:=bs hm48
             cases hm48
             exact tT j j j j (iNe.2 hc46) (oLd (cs:=[.im 0 _,.im 0 _]) j tF184 j j)<|tT j j j j (iNe.2 hc46) (oLd (cs:=[.im 0 _,.im 0 _]) j tF184 j j)<|tT j j j j (iNe.2 hc46) (oMv j j)<|tT j j j j (iNe.2 hc46) (oMv j j)<|tT j j j j (iNe.2 hc46) (oIAI j hx85 sF38 j j)<|tT j j j j (iNe.2 hc46) (oLd (cs:=[.im 2 _,.im 2 _]) j tF184 j j)<|tT j j j j (iNe.2 hc46) (oMv j j)<|tT j j j j (iNe.2 hc46) (oMv j j)<|tT j j j j (iNe.2 hc46) (oBi j j j j)<|tT j j j j (iNe.2 hc46) (oMv j j)<|tT j j j j (iNe.2 hc46) (oRem j hx91 j j)<|tT j j j j (iNe.2 hc46) (oIAI j hx92 sF38 j j)<|tT j j j j (iNe.2 hc46) (oLd (cs:=[.im 2 _,.im 2 _]) j tF184 j j)<|sS (dT z158 j j j (iNe.2 hc46) (oCa (xs:=[.v true [.im 0 _,.im 0 _],.v true [.im 0 _,.im 0 _],.v true [.im 2 _,.im 2 _],.v true [.im 2 _,.im 2 _]]) (vs:=[(false,[.im 0 _])]) (v:=.v false [.im 0 _]) (L_spec_l03Meet hx94) (.inl j) j kF187_184_184_184_184 j (ppC j (ppC j (ppC j (ppC j pp0)))) j j pb0 j j j)) trivial (t j j (oPkT j j (iNe.2 hc46) j)<|sD (by kernel_rfl))
            ·cases hm48
             exact tF j j j j (byF iNe hc46) j<|tF j j j j (byF iNe hc46) j<|tF j j j j (byF iNe hc46) j<|tF j j j j (byF iNe hc46) j<|tF j j j j (byF iNe hc46) j<|tF j j j j (byF iNe hc46) j<|tF j j j j (byF iNe hc46) j<|tF j j j j (byF iNe hc46) j<|tF j j j j (byF iNe hc46) j<|tF j j j j (byF iNe hc46) j<|tF j j j j (byF iNe hc46) j<|tF j j j j (byF iNe hc46) j<|tF j j j j (byF iNe hc46) j<|sS (dF j j j (byF iNe hc46) j) trivial (t j j (oPkF j j (byF iNe hc46) j)<|sD (by kernel_rfl))
           ·refine us<|gc h j iR (fun hc47 h=>?_) fun hc47 h=>?_
            ·refine gs<|g0 j j (q (oAsI j j)<|nl)<|us<|Go.ret (Unw.ret ?_)
             cases h
             exact ⟨j,(fo rF158 j)⟩
            ·refine Go.skip<|Unw.blk<|us<|g0 j j (q (oMv j j)<|q (oBi j j j j)<|q (oAsI j j)<|nl)<|Unw.nil<|?_
             cases h
             exact ⟨j,(by kernel_rfl)⟩
          ·refine Go.exit<|ux<|Unw.nil<|?_
           cases h
           exact ⟨j,(by kernel_rfl)⟩
         ·rintro ⟨e,st⟩ hp
          rcases o with u | r2
          ·dsimp only at h
           obtain ⟨he,hst⟩:=hp
           obtain rfl:e= .exit 4:=he
           refine Unw.blkx<|Unw.blk<|us<|g2 c158 j j hst (q (oMv j j)<|q (oBi j j j j)<|q (oAsI j j)<|nl)<|Unw.nil<|?_
           cases h
           exact ⟨j,(by kernel_rfl)⟩
          ·dsimp only at h
           obtain ⟨he,hfin⟩:=hp
           obtain rfl:e= .ret:=he
           cases h
           exact Unw.ret ⟨j,hfin⟩
      ·refine Go.exit<|ux<|Unw.nil<|?_
       cases h
       exact ⟨j,(by kernel_rfl)⟩
     ·rintro ⟨e,st⟩ hp
      rcases o with u | r2
      ·dsimp only at h
       obtain ⟨he,hst⟩:=hp
       obtain rfl:e= .exit 2:=he
       refine Unw.blkx<|us<|gs<|?_
       obtain ⟨x97,hx97,h⟩:=bs h
       refine g2 c158 j j hst (q (oMv j j)<|q (oCa (xs:=[.v false [.im 2 _]]) (vs:=[(false,[.im 0 _])]) (v:=.v false [.im 0 _]) (L_spec_l03Area hx97) (.inl j) j kF188_38 j (ppC j pp0) j j pb0 j j j)<|q (oBi j j j j)<|q (oAsI j j)<|nl)<|us<|Go.ret (Unw.ret ?_)
       cases h
       exact fr rF158 j
      ·dsimp only at h
       obtain ⟨he,hfin⟩:=hp
       obtain rfl:e= .ret:=he
       cases h
       exact Unw.ret (Fin_ret hfin)
    ·dsimp only at h
     obtain ⟨he,hfin⟩:=hp
     obtain rfl:e= .ret:=he
     cases h
     exact Unw.ret (Fin_ret hfin)
theorem L_spec_l05Ok {d_0:S_Drawing} {r:Bool} (h:spec_l05Ok d_0=some r):FX 106 [.im 2 false [.cp (u_S_Drawing d_0) 0]] (B0 [(false,[.im 0 (V r)])]):=by
 unfold spec_l05Ok at h
 refine gn 96 Tryz.func106 rfl ?_
 refine gs<|g0 j j (q (oAsI j j)<|nl)<|us<|gs<|gs<|?_
 obtain ⟨x10,hx10,h⟩:=bs h
 obtain ⟨t_32_m1,hm29,h⟩:=bs h
 refine gX c106 j j j (mk [(0,D 2 (.cp (u_S_Drawing d_0) 0)),(32,bv t_32_m1)] []) ?_ ?_
 ·refine xq (oMv j j)<|xq (oNl j j j)<|xq (oFA (r':=.im 2 _) j fF41_0 j j)<|xq (oLd (cs:=[.im 2 _]) j tF2 j j)<|xq (oCa (xs:=[.v false [.im 2 _],.v false [.im 0 _],.v false [.im 0 _]]) (vs:=[(false,[.im 0 _])]) (v:=.v false [.im 0 _]) (L_spec_l00In hx10) (.inl j) j kF108_2_2_2 j (ppC j (ppC j (ppC j pp0))) j j pb0 j j j)<|xq (oUn j j j)<|xq (oMv j j)<|?_
  refine ic hm29 (fun hc1 hm29=>?_) fun hc1 hm29=>?_
  ·obtain ⟨x17,hx17,hm29⟩:=bs hm29
   refine xqT j j (nF (iR.2 hc1)) (oMv j j)<|xqT j j (nF (iR.2 hc1)) (oNl j j j)<|xqT j j (nF (iR.2 hc1)) (oFA (r':=.im 2 _) j fF41_1 j j)<|xqT j j (nF (iR.2 hc1)) (oLd (cs:=[.im 2 _]) j tF2 j j)<|xqT j j (nF (iR.2 hc1)) (oCa (xs:=[.v false [.im 2 _],.v false [.im 0 _],.v false [.im 0 _]]) (vs:=[(false,[.im 0 _])]) (v:=.v false [.im 0 _]) (L_spec_l00In hx17) (.inl j) j kF108_2_2_2 j (ppC j (ppC j (ppC j pp0))) j j pb0 j j j)<|xqT j j (nF (iR.2 hc1)) (oUn j j j)<|xq (oPkF j j (nF (iR.2 hc1)) j)<|xq (oMv j j)<|?_
   refine ic hm29 (fun hc2 hm29=>?_) fun hc2 hm29=>?_
   ·obtain ⟨x22,hx22,hm29⟩:=bs hm29
    refine xqT j j (nF (iR.2 hc2)) (oMv j j)<|xqT j j (nF (iR.2 hc2)) (oCa (xs:=[.v false [.im 2 _]]) (vs:=[(false,[.im 0 _])]) (v:=.v false [.im 0 _]) (L_spec_l05Points hx22) (.inl j) j kF155_114 j (ppC j pp0) j j pb0 j j j)<|xqT j j (nF (iR.2 hc2)) (oUn j j j)<|xq (oPkF j j (nF (iR.2 hc2)) j)<|xq (oMv j j)<|?_
    refine ic hm29 (fun hc3 hm29=>?_) fun hc3 hm29=>?_
    ·cases hm29
     exact xqT j j (nF (iR.2 hc3)) (oMv j j)<|xqT j j (nF (iR.2 hc3)) (oNl j j j)<|xqT j j (nF (iR.2 hc3)) (oFA (r':=.im 2 _) j fF41_3 j j)<|xqT j j (nF (iR.2 hc3)) (oLd (cs:=[.im 2 _]) j tF39 j j)<|xqT j j (nF (iR.2 hc3)) (oLnI j j uF39 j)<|xqT j j (nF (iR.2 hc3)) (oBi j j j j)<|xq (oPkF j j (nF (iR.2 hc3)) j)<|xn
    ·cases hm29
     exact xsgF j j (nT (byF iR hc3)) j<|xsgF j j (nT (byF iR hc3)) j<|xsgF j j (nT (byF iR hc3)) j<|xsgF j j (nT (byF iR hc3)) j<|xsgF j j (nT (byF iR hc3)) j<|xsgF j j (nT (byF iR hc3)) j<|xq (oPkT j j (nT (byF iR hc3)) j)<|xn
   ·cases hm29
    exact xsgF j j (nT (byF iR hc2)) j<|xsgF j j (nT (byF iR hc2)) j<|xsgF j j (nT (byF iR hc2)) j<|xq (oPkT j j (nT (byF iR hc2)) j)<|xq (oMv j j)<|xsgF j j j j<|xsgF j j j j<|xsgF j j j j<|xsgF j j j j<|xsgF j j j j<|xsgF j j j j<|xq (oPkT j j j j)<|xn
  ·cases hm29
   exact xsgF j j (nT (byF iR hc1)) j<|xsgF j j (nT (byF iR hc1)) j<|xsgF j j (nT (byF iR hc1)) j<|xsgF j j (nT (byF iR hc1)) j<|xsgF j j (nT (byF iR hc1)) j<|xsgF j j (nT (byF iR hc1)) j<|xq (oPkT j j (nT (byF iR hc1)) j)<|xq (oMv j j)<|xsgF j j j j<|xsgF j j j j<|xsgF j j j j<|xq (oPkT j j j j)<|xq (oMv j j)<|xsgF j j j j<|xsgF j j j j<|xsgF j j j j<|xsgF j j j j<|xsgF j j j j<|xsgF j j j j<|xq (oPkT j j j j)<|xn
 ·refine us<|gc h j iR (fun hc4 h=>?_) fun hc4 h=>?_
  ·refine gs<|g0 j j (q (oAsI j j)<|nl)<|us<|Go.ret (Unw.ret ?_)
   cases h
   exact fr rF106 j
  ·refine Go.skip<|us<|gs<|gs<|g0 j j (q (oAsI j j)<|nl)<|us<|Go.block<|?_
   obtain ⟨o,hl,h⟩:=bs h
   refine gl c106 j _ (fun (i_3_l4:Int)=>mk [(0,D 2 (.cp (u_S_Drawing d_0) 0)),(3,iv i_3_l4)] []) (fun (o:(Unit ⊕ Bool)) (p:Ex×St)=>match o with | (.inl _)=>p.1= .exit 0∧p.2.norm ([],[])=mk [] [] | (.inr r2)=>p.1= .ret∧fin Tryz.prog cfg 106 Tryz.f106 [.im 2 false [.cp (u_S_Drawing d_0) 0]] p.2=some (B0 [(false,[.im 0 (V r2)])])) hl (by kernel_rfl) ?_ ?_ ?_
   ·intro o p hp e
    rcases o with u | r2<;>exact nomatch (hp.1.symm.trans e)
   ·rintro i_3_l4 o h
    unfold spec_l05Ok_l4 at h
    refine gs<|gs<|g0 j j (q (oMv j j)<|q (oMv j j)<|q (oNl j j j)<|q (oFA (r':=.im 2 _) j fF41_3 j j)<|q (oLd (cs:=[.im 2 _]) j tF39 j j)<|q (oLnI j j uF39 j)<|q (oBi j j j j)<|nl)<|us<|gc h j iDec (fun hc21 h=>?_) fun hc21 h=>?_
    ·refine Go.skip<|us<|gs<|Go.block<|gs<|gs<|?_
     obtain ⟨x47,hx47,h⟩:=bs h
     obtain ⟨x50,hx50,h⟩:=bs h
     obtain ⟨t_75_m6,hm28,h⟩:=bs h
     refine gd c106 j j j j (mk [(0,D 2 (.cp (u_S_Drawing d_0) 0)),(3,iv i_3_l4),(75,bv t_75_m6)] []) ?_ ?_
     ·refine t j j (oMv j j)<|t j j (oNl j j j)<|t j j (oFA (r':=.im 2 _) j fF41_3 j j)<|t j j (oLd (cs:=[.im 2 _]) j tF39 j j)<|t j j (oMv j j)<|t j j (oIAI j hx47 sF39 j j)<|t j j (oFA (r':=.im 2 _) j fF187_0 j j)<|?_
      refine ic hm28 (fun hc22 hm28=>?_) fun hc22 hm28=>?_
      ·refine ic hm28 (fun hc23 hm28=>?_) fun hc23 hm28=>?_
       ·obtain ⟨x62,hx62,hm28⟩:=bs hm28
        obtain ⟨x70,hx70,hm28⟩:=bs hm28
        cases hm28
        exact t j j (oLd (cs:=[.im 2 _]) j tF9 j j)<|sS (dN z106 j (oCa (xs:=[.v false [.im 2 _]]) (vs:=[(false,[.im 0 _])]) (v:=.v false [.im 0 _]) (L_spec_l01Name hx50) (.inl j) j kF156_9 j (ppC j pp0) j j pb0 j j j)) trivial (t j j (oUn j j j)<|t j j (oMv j j)<|tT j j j j (nF (iR.2 hc22)) (oMv j j)<|tT j j j j (nF (iR.2 hc22)) (oBi j j j j)<|tT j j j j (nF (iR.2 hc22)) (oMv j j)<|tT j j j j (iDec.2 hc23) (oMv j j)<|tT j j j j (iDec.2 hc23) (oNl j j j)<|tT j j j j (iDec.2 hc23) (oFA (r':=.im 2 _) j fF41_3 j j)<|tT j j j j (iDec.2 hc23) (oLd (cs:=[.im 2 _]) j tF39 j j)<|tT j j j j (iDec.2 hc23) (oMv j j)<|tT j j j j (iDec.2 hc23) (oBi j j j j)<|tT j j j j (iDec.2 hc23) (oIAI j hx62 sF39 j j)<|tT j j j j (iDec.2 hc23) (oFA (r':=.im 2 _) j fF187_0 j j)<|tT j j j j (iDec.2 hc23) (oLd (cs:=[.im 2 _]) j tF9 j j)<|tT j j j j (iDec.2 hc23) (oMv j j)<|tT j j j j (iDec.2 hc23) (oNl j j j)<|tT j j j j (iDec.2 hc23) (oFA (r':=.im 2 _) j fF41_3 j j)<|tT j j j j (iDec.2 hc23) (oLd (cs:=[.im 2 _]) j tF39 j j)<|tT j j j j (iDec.2 hc23) (oMv j j)<|tT j j j j (iDec.2 hc23) (oIAI j hx70 sF39 j j)<|tT j j j j (iDec.2 hc23) (oFA (r':=.im 2 _) j fF187_0 j j)<|tT j j j j (iDec.2 hc23) (oLd (cs:=[.im 2 _]) j tF9 j j)<|tT j j j j (iDec.2 hc23) (oBi j j j j)<|tT j j j j (nF (iR.2 hc22)) (oPkT j j (iDec.2 hc23) j)<|t j j (oPkF j j (nF (iR.2 hc22)) j)<|sD (by kernel_rfl))
       ·cases hm28
        exact t j j (oLd (cs:=[.im 2 _]) j tF9 j j)<|sS (dN z106 j (oCa (xs:=[.v false [.im 2 _]]) (vs:=[(false,[.im 0 _])]) (v:=.v false [.im 0 _]) (L_spec_l01Name hx50) (.inl j) j kF156_9 j (ppC j pp0) j j pb0 j j j)) trivial (t j j (oUn j j j)<|t j j (oMv j j)<|tT j j j j (nF (iR.2 hc22)) (oMv j j)<|tT j j j j (nF (iR.2 hc22)) (oBi j j j j)<|tT j j j j (nF (iR.2 hc22)) (oMv j j)<|tF j j j j (byF iDec hc23) j<|tF j j j j (byF iDec hc23) j<|tF j j j j (byF iDec hc23) j<|tF j j j j (byF iDec hc23) j<|tF j j j j (byF iDec hc23) j<|tF j j j j (byF iDec hc23) j<|tF j j j j (byF iDec hc23) j<|tF j j j j (byF iDec hc23) j<|tF j j j j (byF iDec hc23) j<|tF j j j j (byF iDec hc23) j<|tF j j j j (byF iDec hc23) j<|tF j j j j (byF iDec hc23) j<|tF j j j j (byF iDec hc23) j<|tF j j j j (byF iDec hc23) j<|tF j j j j (byF iDec hc23) j<|tF j j j j (byF iDec hc23) j<|tF j j j j (byF iDec hc23) j<|tF j j j j (byF iDec hc23) j<|tT j j j j (nF (iR.2 hc22)) (oPkF j j (byF iDec hc23) j)<|t j j (oPkF j j (nF (iR.2 hc22)) j)<|sD (by kernel_rfl))
      ·cases hm28
       exact t j j (oLd (cs:=[.im 2 _]) j tF9 j j)<|sS (dN z106 j (oCa (xs:=[.v false [.im 2 _]]) (vs:=[(false,[.im 0 _])]) (v:=.v false [.im 0 _]) (L_spec_l01Name hx50) (.inl j) j kF156_9 j (ppC j pp0) j j pb0 j j j)) trivial (t j j (oUn j j j)<|t j j (oMv j j)<|tF j j j j (nT (byF iR hc22)) j<|tF j j j j (nT (byF iR hc22)) j<|tF j j j j (nT (byF iR hc22)) j<|sT j (dU j j j j)<|sT j (dU j j j j)<|sT j (dU j j j j)<|sT j (dU j j j j)<|sT j (dU j j j j)<|sT j (dU j j j j)<|sT j (dU j j j j)<|sT j (dU j j j j)<|sT j (dU j j j j)<|sT j (dU j j j j)<|sT j (dU j j j j)<|sT j (dU j j j j)<|sT j (dU j j j j)<|sT j (dU j j j j)<|sT j (dU j j j j)<|sT j (dU j j j j)<|sT j (dU j j j j)<|sT j (dU j j j j)<|tF j j j j (nT (byF iR hc22)) j<|t j j (oPkT j j (nT (byF iR hc22)) j)<|sD (by kernel_rfl))
     ·refine us<|gc h j iR (fun hc24 h=>?_) fun hc24 h=>?_
      ·refine gs<|g0 j j (q (oAsI j j)<|nl)<|us<|Go.ret (Unw.ret ?_)
       cases h
       exact ⟨j,(fo rF106 j)⟩
      ·refine Go.skip<|us<|gs<|?_
       obtain ⟨x83,hx83,h⟩:=bs h
       obtain ⟨x86,hx86,h⟩:=bs h
       refine g0 j j (q (oMv j j)<|q (oMv j j)<|q (oNl j j j)<|q (oFA (r':=.im 2 _) j fF41_3 j j)<|q (oLd (cs:=[.im 2 _]) j tF39 j j)<|q (oMv j j)<|q (oIAI j hx83 sF39 j j)<|q (oFA (r':=.im 2 _) j fF187_1 j j)<|q (oLd (cs:=[.im 2 _]) j tF33 j j)<|q (oCr (xs:=[.v false [.im 2 _],.v false [.im 2 _]]) (vs:=[(false,[.own 86 0 0]),(false,[.im 0 _])]) (v:=.tup [(false,[.own 86 0 0]),(false,[.im 0 _])]) (c:=⟨.sh,0,_⟩) (cs:=[]) (L_spec_l05Ring hx86) (.inl j) j kF157_114_33 j (ppC j (ppC j pp0)) j j pb0 j j j)<|q (oMvT j j)<|q (oEx j j j)<|q (oEx j j j)<|q (oAsO j j j j j)<|q (oAsI j j)<|nl)<|us<|gs<|?_
       obtain ⟨t_95_m9,hm27,h⟩:=bs h
       refine gX c106 j j j (mk [(0,D 2 (.cp (u_S_Drawing d_0) 0)),(3,iv i_3_l4),(95,bv t_95_m9)] []) ?_ ?_
       ·refine xq (oMv j j)<|xq (oUn j j j)<|xq (oMv j j)<|?_
        refine ic hm27 (fun hc25 hm27=>?_) fun hc25 hm27=>?_
        ·obtain ⟨x93,hx93,hm27⟩:=bs hm27
         cases hm27
         exact xqT j j (nF (iR.2 hc25)) (oMv j j)<|xqT j j (nF (iR.2 hc25)) (oCa (xs:=[.v false [.own 4 0 0]]) (vs:=[(false,[.im 0 _])]) (v:=.v false [.im 0 _]) (L_spec_l03Ok hx93) (.inl j) j kF158_38 j (ppC j pp0) j j pb0 j j j)<|xqT j j (nF (iR.2 hc25)) (oUn j j j)<|xq (oPkF j j (nF (iR.2 hc25)) j)<|xn
        ·cases hm27
         exact xsgF j j (nT (byF iR hc25)) j<|xsgF j j (nT (byF iR hc25)) j<|xsgF j j (nT (byF iR hc25)) j<|xq (oPkT j j (nT (byF iR hc25)) j)<|xn
       ·refine us<|gc h j iR (fun hc26 h=>?_) fun hc26 h=>?_
        ·refine gs<|g0 j j (q (oAsI j j)<|nl)<|us<|Go.ret (Unw.ret ?_)
         cases h
         exact ⟨j,(fo rF106 j)⟩
        ·refine Go.skip<|Unw.blk<|us<|g0 j j (q (oMv j j)<|q (oBi j j j j)<|q (oAsI j j)<|nl)<|Unw.nil<|?_
         cases h
         exact ⟨j,(by kernel_rfl)⟩
    ·refine Go.exit<|ux<|Unw.nil<|?_
     cases h
     exact ⟨j,(by kernel_rfl)⟩
   ·rintro ⟨e,st⟩ hp
    rcases o with u | r2
    ·dsimp only at h
     obtain ⟨he,hst⟩:=hp
     obtain rfl:e= .exit 0:=he
     refine Unw.blkx<|us<|gs<|g2 c106 j j hst (q (oAsI j j)<|nl)<|us<|Go.ret (Unw.ret ?_)
     cases h
     exact fr rF106 j
    ·dsimp only at h
     obtain ⟨he,hfin⟩:=hp
     obtain rfl:e= .ret:=he
     cases h
     exact Unw.ret (Fin_ret hfin)
theorem L_spec_l07Names {r:(List ByteArray)} (h:spec_l07Names=some r):FX 211 [] (B0 [(false,[.ow 0 1 (List.map eS r)])]):=by
 unfold spec_l07Names at h
 refine gn 2 Tryz.func211 rfl ?_
 refine gs<|g0 j j (q (oAsN j j eF289)<|nl)<|us<|gs<|g0 j j (q (oBS (es:=List.map eS ([(⟨#[97,115,104]⟩:ByteArray),(⟨#[98,101,101,99,104]⟩:ByteArray),(⟨#[98,105,114,99,104]⟩:ByteArray),(⟨#[99,104,101,114,114,121]⟩:ByteArray),(⟨#[101,98,111,110,121]⟩:ByteArray),(⟨#[104,111,108,108,121]⟩:ByteArray),(⟨#[109,97,112,108,101]⟩:ByteArray),(⟨#[111,97,107]⟩:ByteArray),(⟨#[114,111,115,101,119,111,111,100]⟩:ByteArray),(⟨#[119,97,108,110,117,116]⟩:ByteArray)]:List ByteArray)) j sF289 j (ptC j (fxI fx0) j (ptC j (fxI fx0) j (ptC j (fxI fx0) j (ptC j (fxI fx0) j (ptC j (fxI fx0) j (ptC j (fxI fx0) j (ptC j (fxI fx0) j (ptC j (fxI fx0) j (ptC j (fxI fx0) j (ptC j (fxI fx0) j pt0)))))))))) (flat0 j fun _=>j))<|q (oAsO j j j j j)<|nl)<|us<|Go.ret (Unw.ret ?_)
 cases h
 exact fr rF211 j
theorem L_spec_l07Find {name_0:ByteArray} {r:Int} (h:spec_l07Find name_0=some r):FX 189 [.im 2 false [Y name_0]] (B0 [(false,[.im 0 (I r)])]):=by
 unfold spec_l07Find at h
 refine gn 19 Tryz.func189 rfl ?_
 refine gs<|g0 j j (q (oAsI j j)<|nl)<|us<|gs<|?_
 obtain ⟨x5,hx5,h⟩:=bs h
 refine g0 j j (q (oCr (xs:=[]) (vs:=[(false,[.own 5 0 0])]) (v:=.v false [.own 5 0 0]) (c:=⟨.sh,0,_⟩) (cs:=[]) (L_spec_l07Names hx5) (.inl j) j kF211_ j pp0 j j pb0 j j j)<|q (oAsO j j j j j)<|nl)<|us<|gs<|gs<|g0 j j (q (oAsI j j)<|nl)<|us<|Go.block<|?_
 obtain ⟨o,hl,h⟩:=bs h
 refine gl c189 j _ (fun (i_4_l3:Int)=>mk [(0,sv name_0),(3,H 3 0),(4,iv i_4_l3)] [(3,Oc [Z (W 1 eS x5)])]) (fun (o:(Unit ⊕ Int)) (p:Ex×St)=>match o with | (.inl _)=>p.1= .exit 0∧p.2.norm ([],[])=mk [] [] | (.inr r2)=>p.1= .ret∧fin Tryz.prog cfg 189 Tryz.f189 [.im 2 false [Y name_0]] p.2=some (B0 [(false,[.im 0 (I r2)])])) hl (by kernel_rfl) ?_ ?_ ?_
 ·intro o p hp e
  rcases o with u | r2<;>exact nomatch (hp.1.symm.trans e)
 ·rintro i_4_l3 o h
  unfold spec_l07Find_l3 at h
  refine gs<|gs<|g0 j j (q (oMv j j)<|q (oMv j j)<|q (oLnO j j uF289 j j j (fun e=>nomatch e))<|q (oBi j j j j)<|nl)<|us<|gc h j iDec (fun hc5 h=>?_) fun hc5 h=>?_
  ·refine Go.skip<|us<|gs<|Go.block<|gs<|?_
   obtain ⟨x14,hx14,h⟩:=bs h
   refine g0 j j (q (oMv j j)<|q (oMv j j)<|q (oIAO j hx14 sF289 j j j j)<|q (oLdE (cs:=[.im 0 _]) j tF9 j j j (fun e=>nomatch e) (rd_get hx14) j j)<|q (oMv j j)<|q (oBi j j j j)<|nl)<|us<|gc h j iStr (fun hc6 h=>?_) fun hc6 h=>?_
   ·refine gs<|g0 j j (q (oMv j j)<|q (oAsI j j)<|nl)<|us<|Go.ret (Unw.ret ?_)
    cases h
    exact ⟨j,(fo rF189 j)⟩
   ·refine Go.skip<|Unw.blk<|us<|g0 j j (q (oMv j j)<|q (oBi j j j j)<|q (oAsI j j)<|nl)<|Unw.nil<|?_
    cases h
    exact ⟨j,(by kernel_rfl)⟩
  ·refine Go.exit<|ux<|Unw.nil<|?_
   cases h
   exact ⟨j,(by kernel_rfl)⟩
 ·rintro ⟨e,st⟩ hp
  rcases o with u | r2
  ·dsimp only at h
   obtain ⟨he,hst⟩:=hp
   obtain rfl:e= .exit 0:=he
   refine Unw.blkx<|us<|gs<|g2 c189 j j hst (q (oAsI j j)<|nl)<|us<|Go.ret (Unw.ret ?_)
   cases h
   exact fr rF189 j
  ·dsimp only at h
   obtain ⟨he,hfin⟩:=hp
   obtain rfl:e= .ret:=he
   cases h
   exact Unw.ret (Fin_ret hfin)
theorem L_spec_l07Table {r:(List (List Int))} (h:spec_l07Table=some r):FX 190 [] (B0 [(false,[.ow 0 1 (List.map (eL 1 eI) r)])]):=by
 unfold spec_l07Table at h
 refine gn 12 Tryz.func190 rfl ?_
 refine gs<|g0 j j (q (oAsN j j eF118)<|nl)<|us<|gs<|g0 j j (q (oBS (es:=List.map eI ([20,40,310]:List Int)) j sF33 j (ptC j (fxI fx0) j (ptC j (fxI fx0) j (ptC j (fxI fx0) j pt0))) (flat0 j fun _=>j))<|q (oBS (es:=List.map eI ([35,45,410]:List Int)) j sF33 j (ptC j (fxI fx0) j (ptC j (fxI fx0) j (ptC j (fxI fx0) j pt0))) (flat0 j fun _=>j))<|q (oBS (es:=List.map eI ([15,33,280]:List Int)) j sF33 j (ptC j (fxI fx0) j (ptC j (fxI fx0) j (ptC j (fxI fx0) j pt0))) (flat0 j fun _=>j))<|q (oBS (es:=List.map eI ([50,36,240]:List Int)) j sF33 j (ptC j (fxI fx0) j (ptC j (fxI fx0) j (ptC j (fxI fx0) j pt0))) (flat0 j fun _=>j))<|q (oBS (es:=List.map eI ([95,85,270]:List Int)) j sF33 j (ptC j (fxI fx0) j (ptC j (fxI fx0) j (ptC j (fxI fx0) j pt0))) (flat0 j fun _=>j))<|q (oBS (es:=List.map eI ([5,35,370]:List Int)) j sF33 j (ptC j (fxI fx0) j (ptC j (fxI fx0) j (ptC j (fxI fx0) j pt0))) (flat0 j fun _=>j))<|q (oBS (es:=List.map eI ([10,42,290]:List Int)) j sF33 j (ptC j (fxI fx0) j (ptC j (fxI fx0) j (ptC j (fxI fx0) j pt0))) (flat0 j fun _=>j))<|q (oBS (es:=List.map eI ([40,40,330]:List Int)) j sF33 j (ptC j (fxI fx0) j (ptC j (fxI fx0) j (ptC j (fxI fx0) j pt0))) (flat0 j fun _=>j))<|q (oBS (es:=List.map eI ([80,60,220]:List Int)) j sF33 j (ptC j (fxI fx0) j (ptC j (fxI fx0) j (ptC j (fxI fx0) j pt0))) (flat0 j fun _=>j))<|q (oBS (es:=List.map eI ([70,38,260]:List Int)) j sF33 j (ptC j (fxI fx0) j (ptC j (fxI fx0) j (ptC j (fxI fx0) j pt0))) (flat0 j fun _=>j))<|q (oBS (es:=List.map (eL 1 eI) ([([20,40,310]:List Int),([35,45,410]:List Int),([15,33,280]:List Int),([50,36,240]:List Int),([95,85,270]:List Int),([5,35,370]:List Int),([10,42,290]:List Int),([40,40,330]:List Int),([80,60,220]:List Int),([70,38,260]:List Int)]:List (List Int))) j sF118 j (ptC j (fxO j j fx0) j (ptC j (fxO j j fx0) j (ptC j (fxO j j fx0) j (ptC j (fxO j j fx0) j (ptC j (fxO j j fx0) j (ptC j (fxO j j fx0) j (ptC j (fxO j j fx0) j (ptC j (fxO j j fx0) j (ptC j (fxO j j fx0) j (ptC j (fxO j j fx0) j pt0)))))))))) (flat1 j))<|q (oAsO j j j j j)<|nl)<|us<|Go.ret (Unw.ret ?_)
 cases h
 exact fr rF190 j
theorem L_spec_l07Grain {g_0:Int} {r:Bool} (h:spec_l07Grain g_0=some r):FX 191 [.im 2 false [I g_0]] (B0 [(false,[.im 0 (V r)])]):=by
 unfold spec_l07Grain at h
 refine gn 5 Tryz.func191 rfl ?_
 refine gs<|g0 j j (q (oAsI j j)<|nl)<|us<|gs<|?_
 obtain ⟨x4,hx4,h⟩:=bs h
 refine g0 j j (q (oMv j j)<|q (oCa (xs:=[.v false [.im 2 _],.v false [.im 0 _],.v false [.im 0 _]]) (vs:=[(false,[.im 0 _])]) (v:=.v false [.im 0 _]) (L_spec_l00In hx4) (.inl j) j kF108_2_2_2 j (ppC j (ppC j (ppC j pp0))) j j pb0 j j j)<|q (oAsI j j)<|nl)<|us<|Go.ret (Unw.ret ?_)
 cases h
 exact fr rF191 j
theorem L_spec_l07Ok {v_0:S_Veneer} {r:Bool} (h:spec_l07Ok v_0=some r):FX 159 [.im 2 false [.cp (u_S_Veneer v_0) 0]] (B0 [(false,[.im 0 (V r)])]):=by
 unfold spec_l07Ok at h
 refine gn 42 Tryz.func159 rfl ?_
 refine gs<|g0 j j (q (oAsI j j)<|nl)<|us<|gs<|?_
 obtain ⟨x9,hx9,h⟩:=bs h
 refine g0 j j (q (oMv j j)<|q (oNl j j j)<|q (oFA (r':=.im 2 _) j fF123_0 j j)<|q (oLd (cs:=[.im 2 _]) j tF9 j j)<|q (oCa (xs:=[.v false [.im 2 _]]) (vs:=[(false,[.im 0 _])]) (v:=.v false [.im 0 _]) (L_spec_l07Find hx9) (.inl j) j kF189_9 j (ppC j pp0) j j pb0 j j j)<|q (oAsI j j)<|nl)<|us<|gs<|gs<|?_
 obtain ⟨t_19_m2,hm5,h⟩:=bs h
 refine gX c159 j j j (mk [(0,D 2 (.cp (u_S_Veneer v_0) 0)),(3,iv x9),(19,bv t_19_m2)] []) ?_ ?_
 ·refine xq (oMv j j)<|xq (oBi j j j j)<|xq (oMv j j)<|?_
  refine ic hm5 (fun hc1 hm5=>?_) fun hc1 hm5=>?_
  ·cases hm5
   exact xsgF j j (iDec.2 hc1) j<|xsgF j j (iDec.2 hc1) j<|xsgF j j (iDec.2 hc1) j<|xsgF j j (iDec.2 hc1) j<|xsgF j j (iDec.2 hc1) j<|xsgF j j (iDec.2 hc1) j<|xq (oPkT j j (iDec.2 hc1) j)<|xn
  ·obtain ⟨x17,hx17,hm5⟩:=bs hm5
   cases hm5
   exact xqT j j (byF iDec hc1) (oMv j j)<|xqT j j (byF iDec hc1) (oNl j j j)<|xqT j j (byF iDec hc1) (oFA (r':=.im 2 _) j fF123_1 j j)<|xqT j j (byF iDec hc1) (oLd (cs:=[.im 2 _]) j tF2 j j)<|xqT j j (byF iDec hc1) (oCa (xs:=[.v false [.im 2 _],.v false [.im 0 _],.v false [.im 0 _]]) (vs:=[(false,[.im 0 _])]) (v:=.v false [.im 0 _]) (L_spec_l00In hx17) (.inl j) j kF108_2_2_2 j (ppC j (ppC j (ppC j pp0))) j j pb0 j j j)<|xqT j j (byF iDec hc1) (oUn j j j)<|xq (oPkF j j (byF iDec hc1) j)<|xn
 ·refine us<|gc h j iR (fun hc2 h=>?_) fun hc2 h=>?_
  ·refine gs<|g0 j j (q (oAsI j j)<|nl)<|us<|Go.ret (Unw.ret ?_)
   cases h
   exact fr rF159 j
  ·refine Go.skip<|us<|gs<|?_
   obtain ⟨x20,hx20,h⟩:=bs h
   obtain ⟨x22,hx22,h⟩:=bs h
   obtain ⟨x24,hx24,h⟩:=bs h
   refine g0 j j (q (oCr (xs:=[]) (vs:=[(false,[.own 20 0 0])]) (v:=.v false [.own 20 0 0]) (c:=⟨.sh,0,_⟩) (cs:=[]) (L_spec_l07Table hx20) (.inl j) j kF190_ j pp0 j j pb0 j j j)<|q (oMv j j)<|q (oIAO j hx22 sF118 j j j j)<|q (oLdE (cs:=[.im 0 _]) j tF33 j j j (fun e=>nomatch e) (rd_get hx22) j j)<|q (oIAI j hx24 sF33 j j)<|q (oLd (cs:=[.im 0 _]) j tF2 j j)<|q (oAsI j j)<|nl)<|us<|gs<|?_
   obtain ⟨x34,hx34,h⟩:=bs h
   obtain ⟨t_2_m5,hm4,h⟩:=bs h
   refine gX c159 j j j (mk [(2,bv t_2_m5)] []) ?_ ?_
   ·refine xq (oMv j j)<|xq (oNl j j j)<|xq (oFA (r':=.im 2 _) j fF123_1 j j)<|xq (oLd (cs:=[.im 2 _]) j tF2 j j)<|xq (oMv j j)<|xq (oBi j j j j)<|xq (oMv j j)<|xq (oBi j j j j)<|xq (oCa (xs:=[.v false [.im 2 _],.v false [.im 0 _],.v false [.im 0 _]]) (vs:=[(false,[.im 0 _])]) (v:=.v false [.im 0 _]) (L_spec_l00In hx34) (.inl j) j kF108_2_2_2 j (ppC j (ppC j (ppC j pp0))) j j pb0 j j j)<|xq (oMv j j)<|?_
    refine ic hm4 (fun hc3 hm4=>?_) fun hc3 hm4=>?_
    ·obtain ⟨x40,hx40,hm4⟩:=bs hm4
     cases hm4
     exact xqT j j (iR.2 hc3) (oMv j j)<|xqT j j (iR.2 hc3) (oNl j j j)<|xqT j j (iR.2 hc3) (oFA (r':=.im 2 _) j fF123_2 j j)<|xqT j j (iR.2 hc3) (oLd (cs:=[.im 2 _]) j tF2 j j)<|xqT j j (iR.2 hc3) (oCa (xs:=[.v false [.im 2 _]]) (vs:=[(false,[.im 0 _])]) (v:=.v false [.im 0 _]) (L_spec_l07Grain hx40) (.inl j) j kF191_2 j (ppC j pp0) j j pb0 j j j)<|xq (oPkT j j (iR.2 hc3) j)<|xq (oAsI j j)<|xn
    ·cases hm4
     exact xsgF j j (byF iR hc3) j<|xsgF j j (byF iR hc3) j<|xsgF j j (byF iR hc3) j<|xsgF j j (byF iR hc3) j<|xsgF j j (byF iR hc3) j<|xq (oPkF j j (byF iR hc3) j)<|xq (oAsI j j)<|xn
   ·refine us<|Go.ret (Unw.ret ?_)
    cases h
    exact fr rF159 j
theorem L_spec_l08Veneers {list_0:(List S_Veneer)} {r:Bool} (h:spec_l08Veneers list_0=some r):FX 107 [.im 2 false [W 3 e_S_Veneer list_0]] (B0 [(false,[.im 0 (V r)])]):=by
 unfold spec_l08Veneers at h
 refine gn 15 Tryz.func107 rfl ?_
 refine gs<|g0 j j (q (oAsI j j)<|nl)<|us<|gs<|gs<|g0 j j (q (oAsI j j)<|nl)<|us<|Go.block<|?_
 obtain ⟨o,hl,h⟩:=bs h
 refine gl c107 j _ (fun (i_3_l2:Int)=>mk [(0,D 2 (W 3 e_S_Veneer list_0)),(3,iv i_3_l2)] []) (fun (o:(Unit ⊕ Bool)) (p:Ex×St)=>match o with | (.inl _)=>p.1= .exit 0∧p.2.norm ([],[])=mk [] [] | (.inr r2)=>p.1= .ret∧fin Tryz.prog cfg 107 Tryz.f107 [.im 2 false [W 3 e_S_Veneer list_0]] p.2=some (B0 [(false,[.im 0 (V r2)])])) hl (by kernel_rfl) ?_ ?_ ?_
 ·intro o p hp e
  rcases o with u | r2<;>exact nomatch (hp.1.symm.trans e)
 ·rintro i_3_l2 o h
  unfold spec_l08Veneers_l2 at h
  refine gs<|gs<|g0 j j (q (oMv j j)<|q (oMv j j)<|q (oLnI j j uF42 j)<|q (oBi j j j j)<|nl)<|us<|gc h j iDec (fun hc5 h=>?_) fun hc5 h=>?_
  ·refine Go.skip<|us<|gs<|Go.block<|gs<|?_
   obtain ⟨x12,hx12,h⟩:=bs h
   obtain ⟨x13,hx13,h⟩:=bs h
   refine g0 j j (q (oMv j j)<|q (oMv j j)<|q (oIAI j hx12 sF42 j j)<|q (oCa (xs:=[.v false [.im 2 _]]) (vs:=[(false,[.im 0 _])]) (v:=.v false [.im 0 _]) (L_spec_l07Ok hx13) (.inl j) j kF159_181 j (ppC j pp0) j j pb0 j j j)<|q (oUn j j j)<|nl)<|us<|?_
   by_cases hc6:x13=true
   ·rw [if_pos hc6] at h
    refine gF j (nF (iR.2 hc6))<|Go.skip<|Unw.blk<|us<|g0 j j (q (oMv j j)<|q (oBi j j j j)<|q (oAsI j j)<|nl)<|Unw.nil<|?_
    cases h
    exact ⟨j,(by kernel_rfl)⟩
   ·rw [if_neg hc6] at h
    refine gT j (nT (byF iR hc6))<|gs<|g0 j j (q (oAsI j j)<|nl)<|us<|Go.ret (Unw.ret ?_)
    cases h
    exact ⟨j,(fo rF107 j)⟩
  ·refine Go.exit<|ux<|Unw.nil<|?_
   cases h
   exact ⟨j,(by kernel_rfl)⟩
 ·rintro ⟨e,st⟩ hp
  rcases o with u | r2
  ·dsimp only at h
   obtain ⟨he,hst⟩:=hp
   obtain rfl:e= .exit 0:=he
   refine Unw.blkx<|us<|gs<|g2 c107 j j hst (q (oAsI j j)<|nl)<|us<|Go.ret (Unw.ret ?_)
   cases h
   exact fr rF107 j
  ·dsimp only at h
   obtain ⟨he,hfin⟩:=hp
   obtain rfl:e= .ret:=he
   cases h
   exact Unw.ret (Fin_ret hfin)
theorem L_spec_l08Ok {p_0:S_Picture} {r:Bool} (h:spec_l08Ok p_0=some r):FX 87 [.im 2 false [.cp (u_S_Picture p_0) 0]] (B0 [(false,[.im 0 (V r)])]):=by
 unfold spec_l08Ok at h
 refine gn 28 Tryz.func87 rfl ?_
 refine gs<|g0 j j (q (oAsI j j)<|nl)<|us<|gs<|?_
 obtain ⟨x6,hx6,h⟩:=bs h
 obtain ⟨t_2_m1,hm3,h⟩:=bs h
 refine gd c87 j j j j (mk [(2,bv t_2_m1)] []) ?_ ?_
 ·refine t j j (oMv j j)<|t j j (oNl j j j)<|?_
  refine ic hm3 (fun hc1 hm3=>?_) fun hc1 hm3=>?_
  ·obtain ⟨x12,hx12,hm3⟩:=bs hm3
   refine ic hm3 (fun hc2 hm3=>?_) fun hc2 hm3=>?_
   ·cases hm3
    exact t j j (oFA (r':=.im 2 _) j fF44_0 j j)<|sS (dN z87 j (oCa (xs:=[.v false [.im 2 _]]) (vs:=[(false,[.im 0 _])]) (v:=.v false [.im 0 _]) (L_spec_l05Ok hx6) (.inl j) j kF106_114 j (ppC j pp0) j j pb0 j j j)) trivial (t j j (oMv j j)<|tT j j j j (iR.2 hc1) (oMv j j)<|tT j j j j (iR.2 hc1) (oNl j j j)<|tT j j j j (iR.2 hc1) (oFA (r':=.im 2 _) j fF44_1 j j)<|tT j j j j (iR.2 hc1) (oLd (cs:=[.im 2 _]) j tF42 j j)<|sS (dT z87 j j j (iR.2 hc1) (oCa (xs:=[.v false [.im 2 _]]) (vs:=[(false,[.im 0 _])]) (v:=.v false [.im 0 _]) (L_spec_l08Veneers hx12) (.inl j) j kF107_42 j (ppC j pp0) j j pb0 j j j)) trivial (t j j (oPkT j j (iR.2 hc1) j)<|t j j (oMv j j)<|tT j j j j (iR.2 hc2) (oMv j j)<|tT j j j j (iR.2 hc2) (oNl j j j)<|tT j j j j (iR.2 hc2) (oFA (r':=.im 2 _) j fF44_1 j j)<|tT j j j j (iR.2 hc2) (oLd (cs:=[.im 2 _]) j tF42 j j)<|tT j j j j (iR.2 hc2) (oLnI j j uF42 j)<|tT j j j j (iR.2 hc2) (oMv j j)<|tT j j j j (iR.2 hc2) (oNl j j j)<|tT j j j j (iR.2 hc2) (oFA (r':=.im 2 _) j fF44_0 j j)<|tT j j j j (iR.2 hc2) (oFA (r':=.im 2 _) j fF41_3 j j)<|tT j j j j (iR.2 hc2) (oLd (cs:=[.im 2 _]) j tF39 j j)<|tT j j j j (iR.2 hc2) (oLnI j j uF39 j)<|tT j j j j (iR.2 hc2) (oBi j j j j)<|t j j (oPkT j j (iR.2 hc2) j)<|sS (dN z87 j (oAsI j j)) trivial (sD (by kernel_rfl))))
   ·cases hm3
    exact t j j (oFA (r':=.im 2 _) j fF44_0 j j)<|sS (dN z87 j (oCa (xs:=[.v false [.im 2 _]]) (vs:=[(false,[.im 0 _])]) (v:=.v false [.im 0 _]) (L_spec_l05Ok hx6) (.inl j) j kF106_114 j (ppC j pp0) j j pb0 j j j)) trivial (t j j (oMv j j)<|tT j j j j (iR.2 hc1) (oMv j j)<|tT j j j j (iR.2 hc1) (oNl j j j)<|tT j j j j (iR.2 hc1) (oFA (r':=.im 2 _) j fF44_1 j j)<|tT j j j j (iR.2 hc1) (oLd (cs:=[.im 2 _]) j tF42 j j)<|sS (dT z87 j j j (iR.2 hc1) (oCa (xs:=[.v false [.im 2 _]]) (vs:=[(false,[.im 0 _])]) (v:=.v false [.im 0 _]) (L_spec_l08Veneers hx12) (.inl j) j kF107_42 j (ppC j pp0) j j pb0 j j j)) trivial (t j j (oPkT j j (iR.2 hc1) j)<|t j j (oMv j j)<|tF j j j j (byF iR hc2) j<|tF j j j j (byF iR hc2) j<|tF j j j j (byF iR hc2) j<|tF j j j j (byF iR hc2) j<|tF j j j j (byF iR hc2) j<|tF j j j j (byF iR hc2) j<|tF j j j j (byF iR hc2) j<|tF j j j j (byF iR hc2) j<|tF j j j j (byF iR hc2) j<|tF j j j j (byF iR hc2) j<|tF j j j j (byF iR hc2) j<|tF j j j j (byF iR hc2) j<|t j j (oPkF j j (byF iR hc2) j)<|sS (dN z87 j (oAsI j j)) trivial (sD (by kernel_rfl))))
  ·cases hm3
   exact t j j (oFA (r':=.im 2 _) j fF44_0 j j)<|sS (dN z87 j (oCa (xs:=[.v false [.im 2 _]]) (vs:=[(false,[.im 0 _])]) (v:=.v false [.im 0 _]) (L_spec_l05Ok hx6) (.inl j) j kF106_114 j (ppC j pp0) j j pb0 j j j)) trivial (t j j (oMv j j)<|tF j j j j (byF iR hc1) j<|tF j j j j (byF iR hc1) j<|tF j j j j (byF iR hc1) j<|tF j j j j (byF iR hc1) j<|sS (dF j j j (byF iR hc1) j) trivial (t j j (oPkF j j (byF iR hc1) j)<|t j j (oMv j j)<|tF j j j j j j<|tF j j j j j j<|tF j j j j j j<|tF j j j j j j<|tF j j j j j j<|tF j j j j j j<|tF j j j j j j<|tF j j j j j j<|tF j j j j j j<|tF j j j j j j<|tF j j j j j j<|tF j j j j j j<|t j j (oPkF j j j j)<|sS (dN z87 j (oAsI j j)) trivial (sD (by kernel_rfl))))
 ·refine us<|Go.ret (Unw.ret ?_)
  cases h
  exact fr rF87 j
theorem L_spec_l09Box {b_0:S_Box} {width_1:Int} {length_2:Int} {r:Bool} (h:spec_l09Box b_0 width_1 length_2=some r):FX 171 [.im 2 false [.cp (u_S_Box b_0) 0],.im 2 false [I width_1],.im 2 false [I length_2]] (B0 [(false,[.im 0 (V r)])]):=by
 unfold spec_l09Box at h
 refine gn 47 Tryz.func171 rfl ?_
 refine gs<|g0 j j (q (oAsI j j)<|nl)<|us<|gs<|?_
 obtain ⟨x12,hx12,h⟩:=bs h
 obtain ⟨t_6_m1,hm4,h⟩:=bs h
 refine gd c171 j j j j (mk [(6,bv t_6_m1)] []) ?_ ?_
 ·refine t j j (oMv j j)<|t j j (oNl j j j)<|t j j (oFA (r':=.im 2 _) j fF234_0 j j)<|t j j (oLd (cs:=[.im 2 _]) j tF2 j j)<|?_
  refine ic hm4 (fun hc1 hm4=>?_) fun hc1 hm4=>?_
  ·obtain ⟨x19,hx19,hm4⟩:=bs hm4
   refine ic hm4 (fun hc2 hm4=>?_) fun hc2 hm4=>?_
   ·obtain ⟨x32,hx32,hm4⟩:=bs hm4
    refine ic hm4 (fun hc3 hm4=>?_) fun hc3 hm4=>?_
    ·obtain ⟨x45,hx45,hm4⟩:=bs hm4
     cases hm4
     exact t j j (oMv j j)<|sS (dN z171 j (oCa (xs:=[.v false [.im 2 _],.v false [.im 0 _],.v false [.im 2 _]]) (vs:=[(false,[.im 0 _])]) (v:=.v false [.im 0 _]) (L_spec_l00In hx12) (.inl j) j kF108_2_2_2 j (ppC j (ppC j (ppC j pp0))) j j pb0 j j j)) trivial (t j j (oMv j j)<|tT j j j j (iR.2 hc1) (oMv j j)<|tT j j j j (iR.2 hc1) (oNl j j j)<|tT j j j j (iR.2 hc1) (oFA (r':=.im 2 _) j fF234_1 j j)<|tT j j j j (iR.2 hc1) (oLd (cs:=[.im 2 _]) j tF2 j j)<|tT j j j j (iR.2 hc1) (oMv j j)<|sS (dT z171 j j j (iR.2 hc1) (oCa (xs:=[.v false [.im 2 _],.v false [.im 0 _],.v false [.im 2 _]]) (vs:=[(false,[.im 0 _])]) (v:=.v false [.im 0 _]) (L_spec_l00In hx19) (.inl j) j kF108_2_2_2 j (ppC j (ppC j (ppC j pp0))) j j pb0 j j j)) trivial (t j j (oPkT j j (iR.2 hc1) j)<|t j j (oMv j j)<|tT j j j j (iR.2 hc2) (oMv j j)<|tT j j j j (iR.2 hc2) (oNl j j j)<|tT j j j j (iR.2 hc2) (oFA (r':=.im 2 _) j fF234_2 j j)<|tT j j j j (iR.2 hc2) (oLd (cs:=[.im 2 _]) j tF2 j j)<|tT j j j j (iR.2 hc2) (oMv j j)<|tT j j j j (iR.2 hc2) (oMv j j)<|tT j j j j (iR.2 hc2) (oNl j j j)<|tT j j j j (iR.2 hc2) (oFA (r':=.im 2 _) j fF234_0 j j)<|tT j j j j (iR.2 hc2) (oLd (cs:=[.im 2 _]) j tF2 j j)<|tT j j j j (iR.2 hc2) (oBi j j j j)<|sS (dT z171 j j j (iR.2 hc2) (oCa (xs:=[.v false [.im 2 _],.v false [.im 0 _],.v false [.im 0 _]]) (vs:=[(false,[.im 0 _])]) (v:=.v false [.im 0 _]) (L_spec_l00In hx32) (.inl j) j kF108_2_2_2 j (ppC j (ppC j (ppC j pp0))) j j pb0 j j j)) trivial (t j j (oPkT j j (iR.2 hc2) j)<|t j j (oMv j j)<|tT j j j j (iR.2 hc3) (oMv j j)<|tT j j j j (iR.2 hc3) (oNl j j j)<|tT j j j j (iR.2 hc3) (oFA (r':=.im 2 _) j fF234_3 j j)<|tT j j j j (iR.2 hc3) (oLd (cs:=[.im 2 _]) j tF2 j j)<|tT j j j j (iR.2 hc3) (oMv j j)<|tT j j j j (iR.2 hc3) (oMv j j)<|tT j j j j (iR.2 hc3) (oNl j j j)<|tT j j j j (iR.2 hc3) (oFA (r':=.im 2 _) j fF234_1 j j)<|tT j j j j (iR.2 hc3) (oLd (cs:=[.im 2 _]) j tF2 j j)<|tT j j j j (iR.2 hc3) (oBi j j j j)<|sS (dT z171 j j j (iR.2 hc3) (oCa (xs:=[.v false [.im 2 _],.v false [.im 0 _],.v false [.im 0 _]]) (vs:=[(false,[.im 0 _])]) (v:=.v false [.im 0 _]) (L_spec_l00In hx45) (.inl j) j kF108_2_2_2 j (ppC j (ppC j (ppC j pp0))) j j pb0 j j j)) trivial (t j j (oPkT j j (iR.2 hc3) j)<|sS (dN z171 j (oAsI j j)) trivial (sD (by kernel_rfl))))))
    ·cases hm4
     exact t j j (oMv j j)<|sS (dN z171 j (oCa (xs:=[.v false [.im 2 _],.v false [.im 0 _],.v false [.im 2 _]]) (vs:=[(false,[.im 0 _])]) (v:=.v false [.im 0 _]) (L_spec_l00In hx12) (.inl j) j kF108_2_2_2 j (ppC j (ppC j (ppC j pp0))) j j pb0 j j j)) trivial (t j j (oMv j j)<|tT j j j j (iR.2 hc1) (oMv j j)<|tT j j j j (iR.2 hc1) (oNl j j j)<|tT j j j j (iR.2 hc1) (oFA (r':=.im 2 _) j fF234_1 j j)<|tT j j j j (iR.2 hc1) (oLd (cs:=[.im 2 _]) j tF2 j j)<|tT j j j j (iR.2 hc1) (oMv j j)<|sS (dT z171 j j j (iR.2 hc1) (oCa (xs:=[.v false [.im 2 _],.v false [.im 0 _],.v false [.im 2 _]]) (vs:=[(false,[.im 0 _])]) (v:=.v false [.im 0 _]) (L_spec_l00In hx19) (.inl j) j kF108_2_2_2 j (ppC j (ppC j (ppC j pp0))) j j pb0 j j j)) trivial (t j j (oPkT j j (iR.2 hc1) j)<|t j j (oMv j j)<|tT j j j j (iR.2 hc2) (oMv j j)<|tT j j j j (iR.2 hc2) (oNl j j j)<|tT j j j j (iR.2 hc2) (oFA (r':=.im 2 _) j fF234_2 j j)<|tT j j j j (iR.2 hc2) (oLd (cs:=[.im 2 _]) j tF2 j j)<|tT j j j j (iR.2 hc2) (oMv j j)<|tT j j j j (iR.2 hc2) (oMv j j)<|tT j j j j (iR.2 hc2) (oNl j j j)<|tT j j j j (iR.2 hc2) (oFA (r':=.im 2 _) j fF234_0 j j)<|tT j j j j (iR.2 hc2) (oLd (cs:=[.im 2 _]) j tF2 j j)<|tT j j j j (iR.2 hc2) (oBi j j j j)<|sS (dT z171 j j j (iR.2 hc2) (oCa (xs:=[.v false [.im 2 _],.v false [.im 0 _],.v false [.im 0 _]]) (vs:=[(false,[.im 0 _])]) (v:=.v false [.im 0 _]) (L_spec_l00In hx32) (.inl j) j kF108_2_2_2 j (ppC j (ppC j (ppC j pp0))) j j pb0 j j j)) trivial (t j j (oPkT j j (iR.2 hc2) j)<|t j j (oMv j j)<|tF j j j j (byF iR hc3) j<|tF j j j j (byF iR hc3) j<|tF j j j j (byF iR hc3) j<|tF j j j j (byF iR hc3) j<|tF j j j j (byF iR hc3) j<|tF j j j j (byF iR hc3) j<|tF j j j j (byF iR hc3) j<|tF j j j j (byF iR hc3) j<|tF j j j j (byF iR hc3) j<|tF j j j j (byF iR hc3) j<|sS (dF j j j (byF iR hc3) j) trivial (t j j (oPkF j j (byF iR hc3) j)<|sS (dN z171 j (oAsI j j)) trivial (sD (by kernel_rfl))))))
   ·cases hm4
    exact t j j (oMv j j)<|sS (dN z171 j (oCa (xs:=[.v false [.im 2 _],.v false [.im 0 _],.v false [.im 2 _]]) (vs:=[(false,[.im 0 _])]) (v:=.v false [.im 0 _]) (L_spec_l00In hx12) (.inl j) j kF108_2_2_2 j (ppC j (ppC j (ppC j pp0))) j j pb0 j j j)) trivial (t j j (oMv j j)<|tT j j j j (iR.2 hc1) (oMv j j)<|tT j j j j (iR.2 hc1) (oNl j j j)<|tT j j j j (iR.2 hc1) (oFA (r':=.im 2 _) j fF234_1 j j)<|tT j j j j (iR.2 hc1) (oLd (cs:=[.im 2 _]) j tF2 j j)<|tT j j j j (iR.2 hc1) (oMv j j)<|sS (dT z171 j j j (iR.2 hc1) (oCa (xs:=[.v false [.im 2 _],.v false [.im 0 _],.v false [.im 2 _]]) (vs:=[(false,[.im 0 _])]) (v:=.v false [.im 0 _]) (L_spec_l00In hx19) (.inl j) j kF108_2_2_2 j (ppC j (ppC j (ppC j pp0))) j j pb0 j j j)) trivial (t j j (oPkT j j (iR.2 hc1) j)<|t j j (oMv j j)<|tF j j j j (byF iR hc2) j<|tF j j j j (byF iR hc2) j<|tF j j j j (byF iR hc2) j<|tF j j j j (byF iR hc2) j<|tF j j j j (byF iR hc2) j<|tF j j j j (byF iR hc2) j<|tF j j j j (byF iR hc2) j<|tF j j j j (byF iR hc2) j<|tF j j j j (byF iR hc2) j<|tF j j j j (byF iR hc2) j<|sS (dF j j j (byF iR hc2) j) trivial (t j j (oPkF j j (byF iR hc2) j)<|t j j (oMv j j)<|tF j j j j j j<|tF j j j j j j<|tF j j j j j j<|tF j j j j j j<|tF j j j j j j<|tF j j j j j j<|tF j j j j j j<|tF j j j j j j<|tF j j j j j j<|tF j j j j j j<|sS (dF j j j j j) trivial (t j j (oPkF j j j j)<|sS (dN z171 j (oAsI j j)) trivial (sD (by kernel_rfl))))))
  ·cases hm4
   exact t j j (oMv j j)<|sS (dN z171 j (oCa (xs:=[.v false [.im 2 _],.v false [.im 0 _],.v false [.im 2 _]]) (vs:=[(false,[.im 0 _])]) (v:=.v false [.im 0 _]) (L_spec_l00In hx12) (.inl j) j kF108_2_2_2 j (ppC j (ppC j (ppC j pp0))) j j pb0 j j j)) trivial (t j j (oMv j j)<|tF j j j j (byF iR hc1) j<|tF j j j j (byF iR hc1) j<|tF j j j j (byF iR hc1) j<|tF j j j j (byF iR hc1) j<|tF j j j j (byF iR hc1) j<|sS (dF j j j (byF iR hc1) j) trivial (t j j (oPkF j j (byF iR hc1) j)<|t j j (oMv j j)<|tF j j j j j j<|tF j j j j j j<|tF j j j j j j<|tF j j j j j j<|tF j j j j j j<|tF j j j j j j<|tF j j j j j j<|tF j j j j j j<|tF j j j j j j<|tF j j j j j j<|sS (dF j j j j j) trivial (t j j (oPkF j j j j)<|t j j (oMv j j)<|tF j j j j j j<|tF j j j j j j<|tF j j j j j j<|tF j j j j j j<|tF j j j j j j<|tF j j j j j j<|tF j j j j j j<|tF j j j j j j<|tF j j j j j j<|tF j j j j j j<|sS (dF j j j j j) trivial (t j j (oPkF j j j j)<|sS (dN z171 j (oAsI j j)) trivial (sD (by kernel_rfl))))))
 ·refine us<|Go.ret (Unw.ret ?_)
  cases h
  exact fr rF171 j
theorem L_spec_l09One {l_0:S_Leaf} {r:Bool} (h:spec_l09One l_0=some r):FX 139 [.im 2 false [.cp (u_S_Leaf l_0) 0]] (B0 [(false,[.im 0 (V r)])]):=by
 unfold spec_l09One at h
 refine gn 80 Tryz.func139 rfl ?_
 refine gs<|g0 j j (q (oAsI j j)<|nl)<|us<|gs<|gs<|?_
 obtain ⟨x8,hx8,h⟩:=bs h
 obtain ⟨t_32_m1,hm15,h⟩:=bs h
 refine gX c139 j j j (mk [(0,D 2 (.cp (u_S_Leaf l_0) 0)),(32,bv t_32_m1)] []) ?_ ?_
 ·refine xq (oMv j j)<|xq (oNl j j j)<|xq (oFA (r':=.im 2 _) j fF164_0 j j)<|xq (oLd (cs:=[.im 2 _]) j tF9 j j)<|xq (oCa (xs:=[.v false [.im 2 _]]) (vs:=[(false,[.im 0 _])]) (v:=.v false [.im 0 _]) (L_spec_l01Name hx8) (.inl j) j kF156_9 j (ppC j pp0) j j pb0 j j j)<|xq (oUn j j j)<|xq (oMv j j)<|?_
  refine ic hm15 (fun hc1 hm15=>?_) fun hc1 hm15=>?_
  ·obtain ⟨x15,hx15,hm15⟩:=bs hm15
   refine xqT j j (nF (iR.2 hc1)) (oMv j j)<|xqT j j (nF (iR.2 hc1)) (oNl j j j)<|xqT j j (nF (iR.2 hc1)) (oFA (r':=.im 2 _) j fF164_1 j j)<|xqT j j (nF (iR.2 hc1)) (oLd (cs:=[.im 2 _]) j tF9 j j)<|xqT j j (nF (iR.2 hc1)) (oCa (xs:=[.v false [.im 2 _]]) (vs:=[(false,[.im 0 _])]) (v:=.v false [.im 0 _]) (L_spec_l01Name hx15) (.inl j) j kF156_9 j (ppC j pp0) j j pb0 j j j)<|xqT j j (nF (iR.2 hc1)) (oUn j j j)<|xq (oPkF j j (nF (iR.2 hc1)) j)<|xq (oMv j j)<|?_
   refine ic hm15 (fun hc2 hm15=>?_) fun hc2 hm15=>?_
   ·obtain ⟨x23,hx23,hm15⟩:=bs hm15
    refine xqT j j (nF (iR.2 hc2)) (oMv j j)<|xqT j j (nF (iR.2 hc2)) (oNl j j j)<|xqT j j (nF (iR.2 hc2)) (oFA (r':=.im 2 _) j fF164_2 j j)<|xqT j j (nF (iR.2 hc2)) (oLd (cs:=[.im 2 _]) j tF2 j j)<|xqT j j (nF (iR.2 hc2)) (oCa (xs:=[.v false [.im 2 _],.v false [.im 0 _],.v false [.im 0 _]]) (vs:=[(false,[.im 0 _])]) (v:=.v false [.im 0 _]) (L_spec_l00In hx23) (.inl j) j kF108_2_2_2 j (ppC j (ppC j (ppC j pp0))) j j pb0 j j j)<|xqT j j (nF (iR.2 hc2)) (oUn j j j)<|xq (oPkF j j (nF (iR.2 hc2)) j)<|xq (oMv j j)<|?_
    refine ic hm15 (fun hc3 hm15=>?_) fun hc3 hm15=>?_
    ·obtain ⟨x30,hx30,hm15⟩:=bs hm15
     cases hm15
     exact xqT j j (nF (iR.2 hc3)) (oMv j j)<|xqT j j (nF (iR.2 hc3)) (oNl j j j)<|xqT j j (nF (iR.2 hc3)) (oFA (r':=.im 2 _) j fF164_3 j j)<|xqT j j (nF (iR.2 hc3)) (oCa (xs:=[.v false [.im 2 _]]) (vs:=[(false,[.im 0 _])]) (v:=.v false [.im 0 _]) (L_spec_l07Ok hx30) (.inl j) j kF159_181 j (ppC j pp0) j j pb0 j j j)<|xqT j j (nF (iR.2 hc3)) (oUn j j j)<|xq (oPkF j j (nF (iR.2 hc3)) j)<|xn
    ·cases hm15
     exact xsgF j j (nT (byF iR hc3)) j<|xsgF j j (nT (byF iR hc3)) j<|xsgF j j (nT (byF iR hc3)) j<|xsgF j j (nT (byF iR hc3)) j<|xsgF j j (nT (byF iR hc3)) j<|xq (oPkT j j (nT (byF iR hc3)) j)<|xn
   ·cases hm15
    exact xsgF j j (nT (byF iR hc2)) j<|xsgF j j (nT (byF iR hc2)) j<|xsgF j j (nT (byF iR hc2)) j<|xsgF j j (nT (byF iR hc2)) j<|xsgF j j (nT (byF iR hc2)) j<|xsgF j j (nT (byF iR hc2)) j<|xq (oPkT j j (nT (byF iR hc2)) j)<|xq (oMv j j)<|xsgF j j j j<|xsgF j j j j<|xsgF j j j j<|xsgF j j j j<|xsgF j j j j<|xq (oPkT j j j j)<|xn
  ·cases hm15
   exact xsgF j j (nT (byF iR hc1)) j<|xsgF j j (nT (byF iR hc1)) j<|xsgF j j (nT (byF iR hc1)) j<|xsgF j j (nT (byF iR hc1)) j<|xsgF j j (nT (byF iR hc1)) j<|xsgF j j (nT (byF iR hc1)) j<|xq (oPkT j j (nT (byF iR hc1)) j)<|xq (oMv j j)<|xsgF j j j j<|xsgF j j j j<|xsgF j j j j<|xsgF j j j j<|xsgF j j j j<|xsgF j j j j<|xq (oPkT j j j j)<|xq (oMv j j)<|xsgF j j j j<|xsgF j j j j<|xsgF j j j j<|xsgF j j j j<|xsgF j j j j<|xq (oPkT j j j j)<|xn
 ·refine us<|gc h j iR (fun hc4 h=>?_) fun hc4 h=>?_
  ·refine gs<|g0 j j (q (oAsI j j)<|nl)<|us<|Go.ret (Unw.ret ?_)
   cases h
   exact fr rF139 j
  ·refine Go.skip<|us<|gs<|gs<|?_
   obtain ⟨x37,hx37,h⟩:=bs h
   obtain ⟨t_54_m3,hm14,h⟩:=bs h
   refine gX c139 j j j (mk [(0,D 2 (.cp (u_S_Leaf l_0) 0)),(54,bv t_54_m3)] []) ?_ ?_
   ·refine xq (oMv j j)<|xq (oNl j j j)<|xq (oFA (r':=.im 2 _) j fF164_4 j j)<|xq (oLd (cs:=[.im 2 _]) j tF2 j j)<|xq (oCa (xs:=[.v false [.im 2 _],.v false [.im 0 _],.v false [.im 0 _]]) (vs:=[(false,[.im 0 _])]) (v:=.v false [.im 0 _]) (L_spec_l00In hx37) (.inl j) j kF108_2_2_2 j (ppC j (ppC j (ppC j pp0))) j j pb0 j j j)<|xq (oUn j j j)<|xq (oMv j j)<|?_
    refine ic hm14 (fun hc5 hm14=>?_) fun hc5 hm14=>?_
    ·obtain ⟨x44,hx44,hm14⟩:=bs hm14
     refine xqT j j (nF (iR.2 hc5)) (oMv j j)<|xqT j j (nF (iR.2 hc5)) (oNl j j j)<|xqT j j (nF (iR.2 hc5)) (oFA (r':=.im 2 _) j fF164_5 j j)<|xqT j j (nF (iR.2 hc5)) (oLd (cs:=[.im 2 _]) j tF2 j j)<|xqT j j (nF (iR.2 hc5)) (oCa (xs:=[.v false [.im 2 _],.v false [.im 0 _],.v false [.im 0 _]]) (vs:=[(false,[.im 0 _])]) (v:=.v false [.im 0 _]) (L_spec_l00In hx44) (.inl j) j kF108_2_2_2 j (ppC j (ppC j (ppC j pp0))) j j pb0 j j j)<|xqT j j (nF (iR.2 hc5)) (oUn j j j)<|xq (oPkF j j (nF (iR.2 hc5)) j)<|xq (oMv j j)<|?_
     refine ic hm14 (fun hc6 hm14=>?_) fun hc6 hm14=>?_
     ·cases hm14
      exact xqT j j (nF (iR.2 hc6)) (oMv j j)<|xqT j j (nF (iR.2 hc6)) (oNl j j j)<|xqT j j (nF (iR.2 hc6)) (oFA (r':=.im 2 _) j fF164_6 j j)<|xqT j j (nF (iR.2 hc6)) (oLd (cs:=[.im 2 _]) j tF162 j j)<|xqT j j (nF (iR.2 hc6)) (oLnI j j uF162 j)<|xqT j j (nF (iR.2 hc6)) (oBi j j j j)<|xq (oPkF j j (nF (iR.2 hc6)) j)<|xn
     ·cases hm14
      exact xsgF j j (nT (byF iR hc6)) j<|xsgF j j (nT (byF iR hc6)) j<|xsgF j j (nT (byF iR hc6)) j<|xsgF j j (nT (byF iR hc6)) j<|xsgF j j (nT (byF iR hc6)) j<|xsgF j j (nT (byF iR hc6)) j<|xq (oPkT j j (nT (byF iR hc6)) j)<|xn
    ·cases hm14
     exact xsgF j j (nT (byF iR hc5)) j<|xsgF j j (nT (byF iR hc5)) j<|xsgF j j (nT (byF iR hc5)) j<|xsgF j j (nT (byF iR hc5)) j<|xsgF j j (nT (byF iR hc5)) j<|xsgF j j (nT (byF iR hc5)) j<|xq (oPkT j j (nT (byF iR hc5)) j)<|xq (oMv j j)<|xsgF j j j j<|xsgF j j j j<|xsgF j j j j<|xsgF j j j j<|xsgF j j j j<|xsgF j j j j<|xq (oPkT j j j j)<|xn
   ·refine us<|gc h j iR (fun hc7 h=>?_) fun hc7 h=>?_
    ·refine gs<|g0 j j (q (oAsI j j)<|nl)<|us<|Go.ret (Unw.ret ?_)
     cases h
     exact fr rF139 j
    ·refine Go.skip<|us<|gs<|gs<|g0 j j (q (oAsI j j)<|nl)<|us<|Go.block<|?_
     obtain ⟨o,hl,h⟩:=bs h
     refine gl c139 j _ (fun (i_3_l6:Int)=>mk [(0,D 2 (.cp (u_S_Leaf l_0) 0)),(3,iv i_3_l6)] []) (fun (o:(Unit ⊕ Bool)) (p:Ex×St)=>match o with | (.inl _)=>p.1= .exit 0∧p.2.norm ([],[])=mk [] [] | (.inr r2)=>p.1= .ret∧fin Tryz.prog cfg 139 Tryz.f139 [.im 2 false [.cp (u_S_Leaf l_0) 0]] p.2=some (B0 [(false,[.im 0 (V r2)])])) hl (by kernel_rfl) ?_ ?_ ?_
     ·intro o p hp e
      rcases o with u | r2<;>exact nomatch (hp.1.symm.trans e)
     ·rintro i_3_l6 o h
      unfold spec_l09One_l6 at h
      refine gs<|gs<|g0 j j (q (oMv j j)<|q (oMv j j)<|q (oNl j j j)<|q (oFA (r':=.im 2 _) j fF164_6 j j)<|q (oLd (cs:=[.im 2 _]) j tF162 j j)<|q (oLnI j j uF162 j)<|q (oBi j j j j)<|nl)<|us<|gc h j iDec (fun hc12 h=>?_) fun hc12 h=>?_
      ·refine Go.skip<|us<|gs<|Go.block<|gs<|?_
       obtain ⟨x69,hx69,h⟩:=bs h
       obtain ⟨x78,hx78,h⟩:=bs h
       refine gd c139 j j j j (mk [(0,D 2 (.cp (u_S_Leaf l_0) 0)),(3,iv i_3_l6),(79,bv (!x78))] []) (t j j (oMv j j)<|t j j (oNl j j j)<|t j j (oFA (r':=.im 2 _) j fF164_6 j j)<|t j j (oLd (cs:=[.im 2 _]) j tF162 j j)<|t j j (oMv j j)<|t j j (oIAI j hx69 sF162 j j)<|t j j (oMv j j)<|t j j (oNl j j j)<|t j j (oFA (r':=.im 2 _) j fF164_4 j j)<|t j j (oLd (cs:=[.im 2 _]) j tF2 j j)<|t j j (oMv j j)<|t j j (oNl j j j)<|t j j (oFA (r':=.im 2 _) j fF164_5 j j)<|t j j (oLd (cs:=[.im 2 _]) j tF2 j j)<|sS (dN z139 j (oCa (xs:=[.v false [.im 2 _],.v false [.im 2 _],.v false [.im 2 _]]) (vs:=[(false,[.im 0 _])]) (v:=.v false [.im 0 _]) (L_spec_l09Box hx78) (.inl j) j kF171_256_2_2 j (ppC j (ppC j (ppC j pp0))) j j pb0 j j j)) trivial (t j j (oUn j j j)<|sD (by kernel_rfl)))<|us<|?_
       by_cases hc13:x78=true
       ·rw [if_pos hc13] at h
        refine gF j (nF (iR.2 hc13))<|Go.skip<|Unw.blk<|us<|g0 j j (q (oMv j j)<|q (oBi j j j j)<|q (oAsI j j)<|nl)<|Unw.nil<|?_
        cases h
        exact ⟨j,(by kernel_rfl)⟩
       ·rw [if_neg hc13] at h
        refine gT j (nT (byF iR hc13))<|gs<|g0 j j (q (oAsI j j)<|nl)<|us<|Go.ret (Unw.ret ?_)
        cases h
        exact ⟨j,(fo rF139 j)⟩
      ·refine Go.exit<|ux<|Unw.nil<|?_
       cases h
       exact ⟨j,(by kernel_rfl)⟩
     ·rintro ⟨e,st⟩ hp
      rcases o with u | r2
      ·dsimp only at h
       obtain ⟨he,hst⟩:=hp
       obtain rfl:e= .exit 0:=he
       refine Unw.blkx<|us<|gs<|g2 c139 j j hst (q (oAsI j j)<|nl)<|us<|Go.ret (Unw.ret ?_)
       cases h
       exact fr rF139 j
      ·dsimp only at h
       obtain ⟨he,hfin⟩:=hp
       obtain rfl:e= .ret:=he
       cases h
       exact Unw.ret (Fin_ret hfin)
theorem L_spec_l09Ok {list_0:(List S_Leaf)} {r:Bool} (h:spec_l09Ok list_0=some r):FX 88 [.im 2 false [W 9 e_S_Leaf list_0]] (B0 [(false,[.im 0 (V r)])]):=by
 unfold spec_l09Ok at h
 refine gn 36 Tryz.func88 rfl ?_
 refine gs<|g0 j j (q (oAsI j j)<|nl)<|us<|gs<|gs<|g0 j j (q (oAsI j j)<|nl)<|us<|Go.block<|?_
 obtain ⟨o,hl,h⟩:=bs h
 refine gl c88 j _ (fun (i_3_l2:Int)=>mk [(0,D 2 (W 9 e_S_Leaf list_0)),(3,iv i_3_l2)] []) (fun (o:(Unit ⊕ Bool)) (p:Ex×St)=>match o with | (.inl _)=>p.1= .exit 0∧p.2.norm ([0],[])=mk [(0,D 2 (W 9 e_S_Leaf list_0))] [] | (.inr r2)=>p.1= .ret∧fin Tryz.prog cfg 88 Tryz.f88 [.im 2 false [W 9 e_S_Leaf list_0]] p.2=some (B0 [(false,[.im 0 (V r2)])])) hl (by kernel_rfl) ?_ ?_ ?_
 ·intro o p hp e
  rcases o with u | r2<;>exact nomatch (hp.1.symm.trans e)
 ·rintro i_3_l2 o h
  unfold spec_l09Ok_l2 at h
  refine gs<|gs<|g0 j j (q (oMv j j)<|q (oMv j j)<|q (oLnI j j uF45 j)<|q (oBi j j j j)<|nl)<|us<|gc h j iDec (fun hc11 h=>?_) fun hc11 h=>?_
  ·refine Go.skip<|us<|gs<|Go.block<|gs<|?_
   obtain ⟨x12,hx12,h⟩:=bs h
   obtain ⟨x13,hx13,h⟩:=bs h
   obtain ⟨t_32_m4,hm15,h⟩:=bs h
   refine gd c88 j j j j (mk [(0,D 2 (W 9 e_S_Leaf list_0)),(3,iv i_3_l2),(32,bv t_32_m4)] []) ?_ ?_
   ·refine t j j (oMv j j)<|t j j (oMv j j)<|?_
    refine ic hm15 (fun hc12 hm15=>?_) fun hc12 hm15=>?_
    ·refine ic hm15 (fun hc13 hm15=>?_) fun hc13 hm15=>?_
     ·obtain ⟨x22,hx22,hm15⟩:=bs hm15
      obtain ⟨x27,hx27,hm15⟩:=bs hm15
      cases hm15
      exact t j j (oIAI j hx12 sF45 j j)<|sS (dN z88 j (oCa (xs:=[.v false [.im 2 _]]) (vs:=[(false,[.im 0 _])]) (v:=.v false [.im 0 _]) (L_spec_l09One hx13) (.inl j) j kF139_220 j (ppC j pp0) j j pb0 j j j)) trivial (t j j (oUn j j j)<|t j j (oMv j j)<|tT j j j j (nF (iR.2 hc12)) (oMv j j)<|tT j j j j (nF (iR.2 hc12)) (oBi j j j j)<|tT j j j j (nF (iR.2 hc12)) (oMv j j)<|tT j j j j (iDec.2 hc13) (oMv j j)<|tT j j j j (iDec.2 hc13) (oMv j j)<|tT j j j j (iDec.2 hc13) (oBi j j j j)<|tT j j j j (iDec.2 hc13) (oIAI j hx22 sF45 j j)<|tT j j j j (iDec.2 hc13) (oFA (r':=.im 2 _) j fF164_0 j j)<|tT j j j j (iDec.2 hc13) (oLd (cs:=[.im 2 _]) j tF9 j j)<|tT j j j j (iDec.2 hc13) (oMv j j)<|tT j j j j (iDec.2 hc13) (oMv j j)<|tT j j j j (iDec.2 hc13) (oIAI j hx27 sF45 j j)<|tT j j j j (iDec.2 hc13) (oFA (r':=.im 2 _) j fF164_0 j j)<|tT j j j j (iDec.2 hc13) (oLd (cs:=[.im 2 _]) j tF9 j j)<|tT j j j j (iDec.2 hc13) (oBi j j j j)<|tT j j j j (nF (iR.2 hc12)) (oPkT j j (iDec.2 hc13) j)<|t j j (oPkF j j (nF (iR.2 hc12)) j)<|sD (by kernel_rfl))
     ·cases hm15
      exact t j j (oIAI j hx12 sF45 j j)<|sS (dN z88 j (oCa (xs:=[.v false [.im 2 _]]) (vs:=[(false,[.im 0 _])]) (v:=.v false [.im 0 _]) (L_spec_l09One hx13) (.inl j) j kF139_220 j (ppC j pp0) j j pb0 j j j)) trivial (t j j (oUn j j j)<|t j j (oMv j j)<|tT j j j j (nF (iR.2 hc12)) (oMv j j)<|tT j j j j (nF (iR.2 hc12)) (oBi j j j j)<|tT j j j j (nF (iR.2 hc12)) (oMv j j)<|tF j j j j (byF iDec hc13) j<|tF j j j j (byF iDec hc13) j<|tF j j j j (byF iDec hc13) j<|tF j j j j (byF iDec hc13) j<|tF j j j j (byF iDec hc13) j<|tF j j j j (byF iDec hc13) j<|tF j j j j (byF iDec hc13) j<|tF j j j j (byF iDec hc13) j<|tF j j j j (byF iDec hc13) j<|tF j j j j (byF iDec hc13) j<|tF j j j j (byF iDec hc13) j<|tF j j j j (byF iDec hc13) j<|tT j j j j (nF (iR.2 hc12)) (oPkF j j (byF iDec hc13) j)<|t j j (oPkF j j (nF (iR.2 hc12)) j)<|sD (by kernel_rfl))
    ·cases hm15
     exact t j j (oIAI j hx12 sF45 j j)<|sS (dN z88 j (oCa (xs:=[.v false [.im 2 _]]) (vs:=[(false,[.im 0 _])]) (v:=.v false [.im 0 _]) (L_spec_l09One hx13) (.inl j) j kF139_220 j (ppC j pp0) j j pb0 j j j)) trivial (t j j (oUn j j j)<|t j j (oMv j j)<|tF j j j j (nT (byF iR hc12)) j<|tF j j j j (nT (byF iR hc12)) j<|tF j j j j (nT (byF iR hc12)) j<|sT j (dU j j j j)<|sT j (dU j j j j)<|sT j (dU j j j j)<|sT j (dU j j j j)<|sT j (dU j j j j)<|sT j (dU j j j j)<|sT j (dU j j j j)<|sT j (dU j j j j)<|sT j (dU j j j j)<|sT j (dU j j j j)<|sT j (dU j j j j)<|sT j (dU j j j j)<|tF j j j j (nT (byF iR hc12)) j<|t j j (oPkT j j (nT (byF iR hc12)) j)<|sD (by kernel_rfl))
   ·refine us<|gc h j iR (fun hc14 h=>?_) fun hc14 h=>?_
    ·refine gs<|g0 j j (q (oAsI j j)<|nl)<|us<|Go.ret (Unw.ret ?_)
     cases h
     exact ⟨j,(fo rF88 j)⟩
    ·refine Go.skip<|Unw.blk<|us<|g0 j j (q (oMv j j)<|q (oBi j j j j)<|q (oAsI j j)<|nl)<|Unw.nil<|?_
     cases h
     exact ⟨j,(by kernel_rfl)⟩
  ·refine Go.exit<|ux<|Unw.nil<|?_
   cases h
   exact ⟨j,(by kernel_rfl)⟩
 ·rintro ⟨e,st⟩ hp
  rcases o with u | r2
  ·dsimp only at h
   obtain ⟨he,hst⟩:=hp
   obtain rfl:e= .exit 0:=he
   refine Unw.blkx<|us<|gs<|g2 c88 j j hst (q (oMv j j)<|q (oLnI j j uF45 j)<|q (oBi j j j j)<|q (oAsI j j)<|nl)<|us<|Go.ret (Unw.ret ?_)
   cases h
   exact fr rF88 j
  ·dsimp only at h
   obtain ⟨he,hfin⟩:=hp
   obtain rfl:e= .ret:=he
   cases h
   exact Unw.ret (Fin_ret hfin)
theorem L_spec_l03Turn {turn_0:Int} {r:Bool} (h:spec_l03Turn turn_0=some r):FX 172 [.im 2 false [I turn_0]] (B0 [(false,[.im 0 (V r)])]):=by
 unfold spec_l03Turn at h
 refine gn 5 Tryz.func172 rfl ?_
 refine gs<|g0 j j (q (oAsI j j)<|nl)<|us<|gs<|?_
 obtain ⟨x4,hx4,h⟩:=bs h
 refine g0 j j (q (oMv j j)<|q (oCa (xs:=[.v false [.im 2 _],.v false [.im 0 _],.v false [.im 0 _]]) (vs:=[(false,[.im 0 _])]) (v:=.v false [.im 0 _]) (L_spec_l00In hx4) (.inl j) j kF108_2_2_2 j (ppC j (ppC j (ppC j pp0))) j j pb0 j j j)<|q (oAsI j j)<|nl)<|us<|Go.ret (Unw.ret ?_)
 cases h
 exact fr rF172 j
theorem L_spec_l11One {p_0:S_Placement} {r:Bool} (h:spec_l11One p_0=some r):FX 140 [.im 2 false [.cp (u_S_Placement p_0) 0]] (B0 [(false,[.im 0 (V r)])]):=by
 unfold spec_l11One at h
 refine gn 36 Tryz.func140 rfl ?_
 refine gs<|g0 j j (q (oAsI j j)<|nl)<|us<|gs<|?_
 obtain ⟨x7,hx7,h⟩:=bs h
 obtain ⟨t_2_m1,hm5,h⟩:=bs h
 refine gX c140 j j j (mk [(2,bv t_2_m1)] []) ?_ ?_
 ·refine xq (oMv j j)<|xq (oNl j j j)<|xq (oFA (r':=.im 2 _) j fF101_0 j j)<|xq (oLd (cs:=[.im 2 _]) j tF2 j j)<|xq (oCa (xs:=[.v false [.im 2 _],.v false [.im 0 _],.v false [.im 0 _]]) (vs:=[(false,[.im 0 _])]) (v:=.v false [.im 0 _]) (L_spec_l00In hx7) (.inl j) j kF108_2_2_2 j (ppC j (ppC j (ppC j pp0))) j j pb0 j j j)<|xq (oMv j j)<|?_
  refine ic hm5 (fun hc1 hm5=>?_) fun hc1 hm5=>?_
  ·obtain ⟨x13,hx13,hm5⟩:=bs hm5
   refine xqT j j (iR.2 hc1) (oMv j j)<|xqT j j (iR.2 hc1) (oNl j j j)<|xqT j j (iR.2 hc1) (oFA (r':=.im 2 _) j fF101_1 j j)<|xqT j j (iR.2 hc1) (oLd (cs:=[.im 2 _]) j tF2 j j)<|xqT j j (iR.2 hc1) (oCa (xs:=[.v false [.im 2 _],.v false [.im 0 _],.v false [.im 0 _]]) (vs:=[(false,[.im 0 _])]) (v:=.v false [.im 0 _]) (L_spec_l00In hx13) (.inl j) j kF108_2_2_2 j (ppC j (ppC j (ppC j pp0))) j j pb0 j j j)<|xq (oPkT j j (iR.2 hc1) j)<|xq (oMv j j)<|?_
   refine ic hm5 (fun hc2 hm5=>?_) fun hc2 hm5=>?_
   ·obtain ⟨x20,hx20,hm5⟩:=bs hm5
    refine xqT j j (iR.2 hc2) (oMv j j)<|xqT j j (iR.2 hc2) (oNl j j j)<|xqT j j (iR.2 hc2) (oFA (r':=.im 2 _) j fF101_2 j j)<|xqT j j (iR.2 hc2) (oLd (cs:=[.im 2 _]) j tF2 j j)<|xqT j j (iR.2 hc2) (oCa (xs:=[.v false [.im 2 _],.v false [.im 0 _],.v false [.im 0 _]]) (vs:=[(false,[.im 0 _])]) (v:=.v false [.im 0 _]) (L_spec_l00In hx20) (.inl j) j kF108_2_2_2 j (ppC j (ppC j (ppC j pp0))) j j pb0 j j j)<|xq (oPkT j j (iR.2 hc2) j)<|xq (oMv j j)<|?_
    refine ic hm5 (fun hc3 hm5=>?_) fun hc3 hm5=>?_
    ·obtain ⟨x27,hx27,hm5⟩:=bs hm5
     refine xqT j j (iR.2 hc3) (oMv j j)<|xqT j j (iR.2 hc3) (oNl j j j)<|xqT j j (iR.2 hc3) (oFA (r':=.im 2 _) j fF101_3 j j)<|xqT j j (iR.2 hc3) (oLd (cs:=[.im 2 _]) j tF2 j j)<|xqT j j (iR.2 hc3) (oCa (xs:=[.v false [.im 2 _],.v false [.im 0 _],.v false [.im 0 _]]) (vs:=[(false,[.im 0 _])]) (v:=.v false [.im 0 _]) (L_spec_l00In hx27) (.inl j) j kF108_2_2_2 j (ppC j (ppC j (ppC j pp0))) j j pb0 j j j)<|xq (oPkT j j (iR.2 hc3) j)<|xq (oMv j j)<|?_
     refine ic hm5 (fun hc4 hm5=>?_) fun hc4 hm5=>?_
     ·obtain ⟨x34,hx34,hm5⟩:=bs hm5
      cases hm5
      exact xqT j j (iR.2 hc4) (oMv j j)<|xqT j j (iR.2 hc4) (oNl j j j)<|xqT j j (iR.2 hc4) (oFA (r':=.im 2 _) j fF101_4 j j)<|xqT j j (iR.2 hc4) (oLd (cs:=[.im 2 _]) j tF2 j j)<|xqT j j (iR.2 hc4) (oCa (xs:=[.v false [.im 2 _]]) (vs:=[(false,[.im 0 _])]) (v:=.v false [.im 0 _]) (L_spec_l03Turn hx34) (.inl j) j kF172_2 j (ppC j pp0) j j pb0 j j j)<|xq (oPkT j j (iR.2 hc4) j)<|xq (oAsI j j)<|xn
     ·cases hm5
      exact xsgF j j (byF iR hc4) j<|xsgF j j (byF iR hc4) j<|xsgF j j (byF iR hc4) j<|xsgF j j (byF iR hc4) j<|xsgF j j (byF iR hc4) j<|xq (oPkF j j (byF iR hc4) j)<|xq (oAsI j j)<|xn
    ·cases hm5
     exact xsgF j j (byF iR hc3) j<|xsgF j j (byF iR hc3) j<|xsgF j j (byF iR hc3) j<|xsgF j j (byF iR hc3) j<|xsgF j j (byF iR hc3) j<|xq (oPkF j j (byF iR hc3) j)<|xq (oMv j j)<|xsgF j j j j<|xsgF j j j j<|xsgF j j j j<|xsgF j j j j<|xsgF j j j j<|xq (oPkF j j j j)<|xq (oAsI j j)<|xn
   ·cases hm5
    exact xsgF j j (byF iR hc2) j<|xsgF j j (byF iR hc2) j<|xsgF j j (byF iR hc2) j<|xsgF j j (byF iR hc2) j<|xsgF j j (byF iR hc2) j<|xq (oPkF j j (byF iR hc2) j)<|xq (oMv j j)<|xsgF j j j j<|xsgF j j j j<|xsgF j j j j<|xsgF j j j j<|xsgF j j j j<|xq (oPkF j j j j)<|xq (oMv j j)<|xsgF j j j j<|xsgF j j j j<|xsgF j j j j<|xsgF j j j j<|xsgF j j j j<|xq (oPkF j j j j)<|xq (oAsI j j)<|xn
  ·cases hm5
   exact xsgF j j (byF iR hc1) j<|xsgF j j (byF iR hc1) j<|xsgF j j (byF iR hc1) j<|xsgF j j (byF iR hc1) j<|xsgF j j (byF iR hc1) j<|xq (oPkF j j (byF iR hc1) j)<|xq (oMv j j)<|xsgF j j j j<|xsgF j j j j<|xsgF j j j j<|xsgF j j j j<|xsgF j j j j<|xq (oPkF j j j j)<|xq (oMv j j)<|xsgF j j j j<|xsgF j j j j<|xsgF j j j j<|xsgF j j j j<|xsgF j j j j<|xq (oPkF j j j j)<|xq (oMv j j)<|xsgF j j j j<|xsgF j j j j<|xsgF j j j j<|xsgF j j j j<|xsgF j j j j<|xq (oPkF j j j j)<|xq (oAsI j j)<|xn
 ·refine us<|Go.ret (Unw.ret ?_)
  cases h
  exact fr rF140 j
theorem L_spec_l11Ok {list_0:(List S_Placement)} {r:Bool} (h:spec_l11Ok list_0=some r):FX 89 [.im 2 false [W 5 e_S_Placement list_0]] (B0 [(false,[.im 0 (V r)])]):=by
 unfold spec_l11Ok at h
 refine gn 36 Tryz.func89 rfl ?_
 refine gs<|g0 j j (q (oAsI j j)<|nl)<|us<|gs<|gs<|g0 j j (q (oAsI j j)<|nl)<|us<|Go.block<|?_
 obtain ⟨o,hl,h⟩:=bs h
 refine gl c89 j _ (fun (i_3_l2:Int)=>mk [(0,D 2 (W 5 e_S_Placement list_0)),(3,iv i_3_l2)] []) (fun (o:(Unit ⊕ Bool)) (p:Ex×St)=>match o with | (.inl _)=>p.1= .exit 0∧p.2.norm ([0],[])=mk [(0,D 2 (W 5 e_S_Placement list_0))] [] | (.inr r2)=>p.1= .ret∧fin Tryz.prog cfg 89 Tryz.f89 [.im 2 false [W 5 e_S_Placement list_0]] p.2=some (B0 [(false,[.im 0 (V r2)])])) hl (by kernel_rfl) ?_ ?_ ?_
 ·intro o p hp e
  rcases o with u | r2<;>exact nomatch (hp.1.symm.trans e)
 ·rintro i_3_l2 o h
  unfold spec_l11Ok_l2 at h
  refine gs<|gs<|g0 j j (q (oMv j j)<|q (oMv j j)<|q (oLnI j j uF46 j)<|q (oBi j j j j)<|nl)<|us<|gc h j iDec (fun hc11 h=>?_) fun hc11 h=>?_
  ·refine Go.skip<|us<|gs<|Go.block<|gs<|?_
   obtain ⟨x12,hx12,h⟩:=bs h
   obtain ⟨x13,hx13,h⟩:=bs h
   obtain ⟨t_32_m4,hm15,h⟩:=bs h
   refine gd c89 j j j j (mk [(0,D 2 (W 5 e_S_Placement list_0)),(3,iv i_3_l2),(32,bv t_32_m4)] []) ?_ ?_
   ·refine t j j (oMv j j)<|t j j (oMv j j)<|?_
    refine ic hm15 (fun hc12 hm15=>?_) fun hc12 hm15=>?_
    ·refine ic hm15 (fun hc13 hm15=>?_) fun hc13 hm15=>?_
     ·obtain ⟨x22,hx22,hm15⟩:=bs hm15
      obtain ⟨x27,hx27,hm15⟩:=bs hm15
      cases hm15
      exact t j j (oIAI j hx12 sF46 j j)<|sS (dN z89 j (oCa (xs:=[.v false [.im 2 _]]) (vs:=[(false,[.im 0 _])]) (v:=.v false [.im 0 _]) (L_spec_l11One hx13) (.inl j) j kF140_222 j (ppC j pp0) j j pb0 j j j)) trivial (t j j (oUn j j j)<|t j j (oMv j j)<|tT j j j j (nF (iR.2 hc12)) (oMv j j)<|tT j j j j (nF (iR.2 hc12)) (oBi j j j j)<|tT j j j j (nF (iR.2 hc12)) (oMv j j)<|tT j j j j (iDec.2 hc13) (oMv j j)<|tT j j j j (iDec.2 hc13) (oMv j j)<|tT j j j j (iDec.2 hc13) (oBi j j j j)<|tT j j j j (iDec.2 hc13) (oIAI j hx22 sF46 j j)<|tT j j j j (iDec.2 hc13) (oFA (r':=.im 2 _) j fF101_0 j j)<|tT j j j j (iDec.2 hc13) (oLd (cs:=[.im 2 _]) j tF2 j j)<|tT j j j j (iDec.2 hc13) (oMv j j)<|tT j j j j (iDec.2 hc13) (oMv j j)<|tT j j j j (iDec.2 hc13) (oIAI j hx27 sF46 j j)<|tT j j j j (iDec.2 hc13) (oFA (r':=.im 2 _) j fF101_0 j j)<|tT j j j j (iDec.2 hc13) (oLd (cs:=[.im 2 _]) j tF2 j j)<|tT j j j j (iDec.2 hc13) (oBi j j j j)<|tT j j j j (nF (iR.2 hc12)) (oPkT j j (iDec.2 hc13) j)<|t j j (oPkF j j (nF (iR.2 hc12)) j)<|sD (by kernel_rfl))
     ·cases hm15
      exact t j j (oIAI j hx12 sF46 j j)<|sS (dN z89 j (oCa (xs:=[.v false [.im 2 _]]) (vs:=[(false,[.im 0 _])]) (v:=.v false [.im 0 _]) (L_spec_l11One hx13) (.inl j) j kF140_222 j (ppC j pp0) j j pb0 j j j)) trivial (t j j (oUn j j j)<|t j j (oMv j j)<|tT j j j j (nF (iR.2 hc12)) (oMv j j)<|tT j j j j (nF (iR.2 hc12)) (oBi j j j j)<|tT j j j j (nF (iR.2 hc12)) (oMv j j)<|tF j j j j (byF iDec hc13) j<|tF j j j j (byF iDec hc13) j<|tF j j j j (byF iDec hc13) j<|tF j j j j (byF iDec hc13) j<|tF j j j j (byF iDec hc13) j<|tF j j j j (byF iDec hc13) j<|tF j j j j (byF iDec hc13) j<|tF j j j j (byF iDec hc13) j<|tF j j j j (byF iDec hc13) j<|tF j j j j (byF iDec hc13) j<|tF j j j j (byF iDec hc13) j<|tF j j j j (byF iDec hc13) j<|tT j j j j (nF (iR.2 hc12)) (oPkF j j (byF iDec hc13) j)<|t j j (oPkF j j (nF (iR.2 hc12)) j)<|sD (by kernel_rfl))
    ·cases hm15
     exact t j j (oIAI j hx12 sF46 j j)<|sS (dN z89 j (oCa (xs:=[.v false [.im 2 _]]) (vs:=[(false,[.im 0 _])]) (v:=.v false [.im 0 _]) (L_spec_l11One hx13) (.inl j) j kF140_222 j (ppC j pp0) j j pb0 j j j)) trivial (t j j (oUn j j j)<|t j j (oMv j j)<|tF j j j j (nT (byF iR hc12)) j<|tF j j j j (nT (byF iR hc12)) j<|tF j j j j (nT (byF iR hc12)) j<|sT j (dU j j j j)<|sT j (dU j j j j)<|sT j (dU j j j j)<|sT j (dU j j j j)<|sT j (dU j j j j)<|sT j (dU j j j j)<|sT j (dU j j j j)<|sT j (dU j j j j)<|sT j (dU j j j j)<|sT j (dU j j j j)<|sT j (dU j j j j)<|sT j (dU j j j j)<|tF j j j j (nT (byF iR hc12)) j<|t j j (oPkT j j (nT (byF iR hc12)) j)<|sD (by kernel_rfl))
   ·refine us<|gc h j iR (fun hc14 h=>?_) fun hc14 h=>?_
    ·refine gs<|g0 j j (q (oAsI j j)<|nl)<|us<|Go.ret (Unw.ret ?_)
     cases h
     exact ⟨j,(fo rF89 j)⟩
    ·refine Go.skip<|Unw.blk<|us<|g0 j j (q (oMv j j)<|q (oBi j j j j)<|q (oAsI j j)<|nl)<|Unw.nil<|?_
     cases h
     exact ⟨j,(by kernel_rfl)⟩
  ·refine Go.exit<|ux<|Unw.nil<|?_
   cases h
   exact ⟨j,(by kernel_rfl)⟩
 ·rintro ⟨e,st⟩ hp
  rcases o with u | r2
  ·dsimp only at h
   obtain ⟨he,hst⟩:=hp
   obtain rfl:e= .exit 0:=he
   refine Unw.blkx<|us<|gs<|g2 c89 j j hst (q (oMv j j)<|q (oLnI j j uF46 j)<|q (oBi j j j j)<|q (oAsI j j)<|nl)<|us<|Go.ret (Unw.ret ?_)
   cases h
   exact fr rF89 j
  ·dsimp only at h
   obtain ⟨he,hfin⟩:=hp
   obtain rfl:e= .ret:=he
   cases h
   exact Unw.ret (Fin_ret hfin)
theorem L_spec_l05Face {d_0:S_Drawing} {k_1:Int} {r:Bool} (h:spec_l05Face d_0 k_1=some r):FX 141 [.im 2 false [.cp (u_S_Drawing d_0) 0],.im 2 false [I k_1]] (B0 [(false,[.im 0 (V r)])]):=by
 unfold spec_l05Face at h
 refine gn 13 Tryz.func141 rfl ?_
 refine gs<|g0 j j (q (oAsI j j)<|nl)<|us<|gs<|?_
 obtain ⟨x12,hx12,h⟩:=bs h
 refine g0 j j (q (oMv j j)<|q (oMv j j)<|q (oNl j j j)<|q (oFA (r':=.im 2 _) j fF41_3 j j)<|q (oLd (cs:=[.im 2 _]) j tF39 j j)<|q (oLnI j j uF39 j)<|q (oBi j j j j)<|q (oCa (xs:=[.v false [.im 2 _],.v false [.im 0 _],.v false [.im 0 _]]) (vs:=[(false,[.im 0 _])]) (v:=.v false [.im 0 _]) (L_spec_l00In hx12) (.inl j) j kF108_2_2_2 j (ppC j (ppC j (ppC j pp0))) j j pb0 j j j)<|q (oAsI j j)<|nl)<|us<|Go.ret (Unw.ret ?_)
 cases h
 exact fr rF141 j
theorem L_spec_l11Fits {pic_0:S_Picture} {list_1:(List S_Placement)} {r:Bool} (h:spec_l11Fits pic_0 list_1=some r):FX 90 [.im 2 false [.cp (u_S_Picture pic_0) 0],.im 2 false [W 5 e_S_Placement list_1]] (B0 [(false,[.im 0 (V r)])]):=by
 unfold spec_l11Fits at h
 refine gn 22 Tryz.func90 rfl ?_
 refine gs<|g0 j j (q (oAsI j j)<|nl)<|us<|gs<|gs<|g0 j j (q (oAsI j j)<|nl)<|us<|Go.block<|?_
 obtain ⟨o,hl,h⟩:=bs h
 refine gl c90 j _ (fun (i_5_l2:Int)=>mk [(0,D 2 (.cp (u_S_Picture pic_0) 0)),(1,D 2 (W 5 e_S_Placement list_1)),(5,iv i_5_l2)] []) (fun (o:(Unit ⊕ Bool)) (p:Ex×St)=>match o with | (.inl _)=>p.1= .exit 0∧p.2.norm ([],[])=mk [] [] | (.inr r2)=>p.1= .ret∧fin Tryz.prog cfg 90 Tryz.f90 [.im 2 false [.cp (u_S_Picture pic_0) 0],.im 2 false [W 5 e_S_Placement list_1]] p.2=some (B0 [(false,[.im 0 (V r2)])])) hl (by kernel_rfl) ?_ ?_ ?_
 ·intro o p hp e
  rcases o with u | r2<;>exact nomatch (hp.1.symm.trans e)
 ·rintro i_5_l2 o h
  unfold spec_l11Fits_l2 at h
  refine gs<|gs<|g0 j j (q (oMv j j)<|q (oMv j j)<|q (oLnI j j uF46 j)<|q (oBi j j j j)<|nl)<|us<|gc h j iDec (fun hc5 h=>?_) fun hc5 h=>?_
  ·refine Go.skip<|us<|gs<|Go.block<|gs<|?_
   obtain ⟨x17,hx17,h⟩:=bs h
   obtain ⟨x20,hx20,h⟩:=bs h
   refine gd c90 j j j j (mk [(0,D 2 (.cp (u_S_Picture pic_0) 0)),(1,D 2 (W 5 e_S_Placement list_1)),(5,iv i_5_l2),(21,bv (!x20))] []) (t j j (oMv j j)<|t j j (oNl j j j)<|t j j (oFA (r':=.im 2 _) j fF44_0 j j)<|t j j (oMv j j)<|t j j (oMv j j)<|t j j (oIAI j hx17 sF46 j j)<|t j j (oFA (r':=.im 2 _) j fF101_0 j j)<|t j j (oLd (cs:=[.im 2 _]) j tF2 j j)<|sS (dN z90 j (oCa (xs:=[.v false [.im 2 _],.v false [.im 2 _]]) (vs:=[(false,[.im 0 _])]) (v:=.v false [.im 0 _]) (L_spec_l05Face hx20) (.inl j) j kF141_114_2 j (ppC j (ppC j pp0)) j j pb0 j j j)) trivial (t j j (oUn j j j)<|sD (by kernel_rfl)))<|us<|?_
   by_cases hc6:x20=true
   ·rw [if_pos hc6] at h
    refine gF j (nF (iR.2 hc6))<|Go.skip<|Unw.blk<|us<|g0 j j (q (oMv j j)<|q (oBi j j j j)<|q (oAsI j j)<|nl)<|Unw.nil<|?_
    cases h
    exact ⟨j,(by kernel_rfl)⟩
   ·rw [if_neg hc6] at h
    refine gT j (nT (byF iR hc6))<|gs<|g0 j j (q (oAsI j j)<|nl)<|us<|Go.ret (Unw.ret ?_)
    cases h
    exact ⟨j,(fo rF90 j)⟩
  ·refine Go.exit<|ux<|Unw.nil<|?_
   cases h
   exact ⟨j,(by kernel_rfl)⟩
 ·rintro ⟨e,st⟩ hp
  rcases o with u | r2
  ·dsimp only at h
   obtain ⟨he,hst⟩:=hp
   obtain rfl:e= .exit 0:=he
   refine Unw.blkx<|us<|gs<|g2 c90 j j hst (q (oAsI j j)<|nl)<|us<|Go.ret (Unw.ret ?_)
   cases h
   exact fr rF90 j
  ·dsimp only at h
   obtain ⟨he,hfin⟩:=hp
   obtain rfl:e= .ret:=he
   cases h
   exact Unw.ret (Fin_ret hfin)
theorem L_spec_l11Rules {r_0:S_Rules} {r:Bool} (h:spec_l11Rules r_0=some r):FX 91 [.im 2 false [.cp (u_S_Rules r_0) 0]] (B0 [(false,[.im 0 (V r)])]):=by
 unfold spec_l11Rules at h
 refine gn 29 Tryz.func91 rfl ?_
 refine gs<|g0 j j (q (oAsI j j)<|nl)<|us<|gs<|?_
 obtain ⟨x7,hx7,h⟩:=bs h
 obtain ⟨t_2_m1,hm4,h⟩:=bs h
 refine gX c91 j j j (mk [(2,bv t_2_m1)] []) ?_ ?_
 ·refine xq (oMv j j)<|xq (oNl j j j)<|xq (oFA (r':=.im 2 _) j fF47_0 j j)<|xq (oLd (cs:=[.im 2 _]) j tF2 j j)<|xq (oCa (xs:=[.v false [.im 2 _],.v false [.im 0 _],.v false [.im 0 _]]) (vs:=[(false,[.im 0 _])]) (v:=.v false [.im 0 _]) (L_spec_l00In hx7) (.inl j) j kF108_2_2_2 j (ppC j (ppC j (ppC j pp0))) j j pb0 j j j)<|xq (oMv j j)<|?_
  refine ic hm4 (fun hc1 hm4=>?_) fun hc1 hm4=>?_
  ·obtain ⟨x13,hx13,hm4⟩:=bs hm4
   refine xqT j j (iR.2 hc1) (oMv j j)<|xqT j j (iR.2 hc1) (oNl j j j)<|xqT j j (iR.2 hc1) (oFA (r':=.im 2 _) j fF47_1 j j)<|xqT j j (iR.2 hc1) (oLd (cs:=[.im 2 _]) j tF2 j j)<|xqT j j (iR.2 hc1) (oCa (xs:=[.v false [.im 2 _],.v false [.im 0 _],.v false [.im 0 _]]) (vs:=[(false,[.im 0 _])]) (v:=.v false [.im 0 _]) (L_spec_l00In hx13) (.inl j) j kF108_2_2_2 j (ppC j (ppC j (ppC j pp0))) j j pb0 j j j)<|xq (oPkT j j (iR.2 hc1) j)<|xq (oMv j j)<|?_
   refine ic hm4 (fun hc2 hm4=>?_) fun hc2 hm4=>?_
   ·obtain ⟨x20,hx20,hm4⟩:=bs hm4
    refine xqT j j (iR.2 hc2) (oMv j j)<|xqT j j (iR.2 hc2) (oNl j j j)<|xqT j j (iR.2 hc2) (oFA (r':=.im 2 _) j fF47_2 j j)<|xqT j j (iR.2 hc2) (oLd (cs:=[.im 2 _]) j tF2 j j)<|xqT j j (iR.2 hc2) (oCa (xs:=[.v false [.im 2 _],.v false [.im 0 _],.v false [.im 0 _]]) (vs:=[(false,[.im 0 _])]) (v:=.v false [.im 0 _]) (L_spec_l00In hx20) (.inl j) j kF108_2_2_2 j (ppC j (ppC j (ppC j pp0))) j j pb0 j j j)<|xq (oPkT j j (iR.2 hc2) j)<|xq (oMv j j)<|?_
    refine ic hm4 (fun hc3 hm4=>?_) fun hc3 hm4=>?_
    ·obtain ⟨x27,hx27,hm4⟩:=bs hm4
     cases hm4
     exact xqT j j (iR.2 hc3) (oMv j j)<|xqT j j (iR.2 hc3) (oNl j j j)<|xqT j j (iR.2 hc3) (oFA (r':=.im 2 _) j fF47_3 j j)<|xqT j j (iR.2 hc3) (oLd (cs:=[.im 2 _]) j tF2 j j)<|xqT j j (iR.2 hc3) (oCa (xs:=[.v false [.im 2 _],.v false [.im 0 _],.v false [.im 0 _]]) (vs:=[(false,[.im 0 _])]) (v:=.v false [.im 0 _]) (L_spec_l00In hx27) (.inl j) j kF108_2_2_2 j (ppC j (ppC j (ppC j pp0))) j j pb0 j j j)<|xq (oPkT j j (iR.2 hc3) j)<|xq (oAsI j j)<|xn
    ·cases hm4
     exact xsgF j j (byF iR hc3) j<|xsgF j j (byF iR hc3) j<|xsgF j j (byF iR hc3) j<|xsgF j j (byF iR hc3) j<|xsgF j j (byF iR hc3) j<|xq (oPkF j j (byF iR hc3) j)<|xq (oAsI j j)<|xn
   ·cases hm4
    exact xsgF j j (byF iR hc2) j<|xsgF j j (byF iR hc2) j<|xsgF j j (byF iR hc2) j<|xsgF j j (byF iR hc2) j<|xsgF j j (byF iR hc2) j<|xq (oPkF j j (byF iR hc2) j)<|xq (oMv j j)<|xsgF j j j j<|xsgF j j j j<|xsgF j j j j<|xsgF j j j j<|xsgF j j j j<|xq (oPkF j j j j)<|xq (oAsI j j)<|xn
  ·cases hm4
   exact xsgF j j (byF iR hc1) j<|xsgF j j (byF iR hc1) j<|xsgF j j (byF iR hc1) j<|xsgF j j (byF iR hc1) j<|xsgF j j (byF iR hc1) j<|xq (oPkF j j (byF iR hc1) j)<|xq (oMv j j)<|xsgF j j j j<|xsgF j j j j<|xsgF j j j j<|xsgF j j j j<|xsgF j j j j<|xq (oPkF j j j j)<|xq (oMv j j)<|xsgF j j j j<|xsgF j j j j<|xsgF j j j j<|xsgF j j j j<|xsgF j j j j<|xq (oPkF j j j j)<|xq (oAsI j j)<|xn
 ·refine us<|Go.ret (Unw.ret ?_)
  cases h
  exact fr rF91 j
theorem L_spec_l13Sheet {thickness_0:Int} {kerf_1:Int} {r:Bool} (h:spec_l13Sheet thickness_0 kerf_1=some r):FX 92 [.im 2 false [I thickness_0],.im 2 false [I kerf_1]] (B0 [(false,[.im 0 (V r)])]):=by
 unfold spec_l13Sheet at h
 refine gn 11 Tryz.func92 rfl ?_
 refine gs<|g0 j j (q (oAsI j j)<|nl)<|us<|gs<|?_
 obtain ⟨x6,hx6,h⟩:=bs h
 obtain ⟨t_4_m1,hm2,h⟩:=bs h
 refine gX c92 j j j (mk [(4,bv t_4_m1)] []) ?_ ?_
 ·refine xq (oMv j j)<|xq (oCa (xs:=[.v false [.im 2 _],.v false [.im 0 _],.v false [.im 0 _]]) (vs:=[(false,[.im 0 _])]) (v:=.v false [.im 0 _]) (L_spec_l00In hx6) (.inl j) j kF108_2_2_2 j (ppC j (ppC j (ppC j pp0))) j j pb0 j j j)<|xq (oMv j j)<|?_
  refine ic hm2 (fun hc1 hm2=>?_) fun hc1 hm2=>?_
  ·obtain ⟨x9,hx9,hm2⟩:=bs hm2
   cases hm2
   exact xqT j j (iR.2 hc1) (oMv j j)<|xqT j j (iR.2 hc1) (oCa (xs:=[.v false [.im 2 _],.v false [.im 0 _],.v false [.im 0 _]]) (vs:=[(false,[.im 0 _])]) (v:=.v false [.im 0 _]) (L_spec_l00In hx9) (.inl j) j kF108_2_2_2 j (ppC j (ppC j (ppC j pp0))) j j pb0 j j j)<|xq (oPkT j j (iR.2 hc1) j)<|xq (oAsI j j)<|xn
  ·cases hm2
   exact xsgF j j (byF iR hc1) j<|xsgF j j (byF iR hc1) j<|xq (oPkF j j (byF iR hc1) j)<|xq (oAsI j j)<|xn
 ·refine us<|Go.ret (Unw.ret ?_)
  cases h
  exact fr rF92 j
theorem L_spec_l13Angle {d_0:Int} {r:Bool} (h:spec_l13Angle d_0=some r):FX 93 [.im 2 false [I d_0]] (B0 [(false,[.im 0 (V r)])]):=by
 unfold spec_l13Angle at h
 refine gn 5 Tryz.func93 rfl ?_
 refine gs<|g0 j j (q (oAsI j j)<|nl)<|us<|gs<|?_
 obtain ⟨x4,hx4,h⟩:=bs h
 refine g0 j j (q (oMv j j)<|q (oCa (xs:=[.v false [.im 2 _],.v false [.im 0 _],.v false [.im 0 _]]) (vs:=[(false,[.im 0 _])]) (v:=.v false [.im 0 _]) (L_spec_l00In hx4) (.inl j) j kF108_2_2_2 j (ppC j (ppC j (ppC j pp0))) j j pb0 j j j)<|q (oAsI j j)<|nl)<|us<|Go.ret (Unw.ret ?_)
 cases h
 exact fr rF93 j
theorem L_spec_l13Tolerance {n_0:Int} {r:Bool} (h:spec_l13Tolerance n_0=some r):FX 94 [.im 2 false [I n_0]] (B0 [(false,[.im 0 (V r)])]):=by
 unfold spec_l13Tolerance at h
 refine gn 5 Tryz.func94 rfl ?_
 refine gs<|g0 j j (q (oAsI j j)<|nl)<|us<|gs<|?_
 obtain ⟨x4,hx4,h⟩:=bs h
 refine g0 j j (q (oMv j j)<|q (oCa (xs:=[.v false [.im 2 _],.v false [.im 0 _],.v false [.im 0 _]]) (vs:=[(false,[.im 0 _])]) (v:=.v false [.im 0 _]) (L_spec_l00In hx4) (.inl j) j kF108_2_2_2 j (ppC j (ppC j (ppC j pp0))) j j pb0 j j j)<|q (oAsI j j)<|nl)<|us<|Go.ret (Unw.ret ?_)
 cases h
 exact fr rF94 j
theorem L_spec_l00Has {list_0:(List Int)} {n_1:Int} {r:Bool} (h:spec_l00Has list_0 n_1=some r):FX 112 [.im 2 false [W 1 eI list_0],.im 2 false [I n_1]] (B0 [(false,[.im 0 (V r)])]):=by
 unfold spec_l00Has at h
 refine gn 18 Tryz.func112 rfl ?_
 refine gs<|g0 j j (q (oAsI j j)<|nl)<|us<|gs<|gs<|g0 j j (q (oAsI j j)<|nl)<|us<|Go.block<|?_
 obtain ⟨o,hl,h⟩:=bs h
 refine gl c112 j _ (fun (i_5_l2:Int)=>mk [(0,D 2 (W 1 eI list_0)),(1,iv n_1),(5,iv i_5_l2)] []) (fun (o:(Unit ⊕ Bool)) (p:Ex×St)=>match o with | (.inl _)=>p.1= .exit 0∧p.2.norm ([],[])=mk [] [] | (.inr r2)=>p.1= .ret∧fin Tryz.prog cfg 112 Tryz.f112 [.im 2 false [W 1 eI list_0],.im 2 false [I n_1]] p.2=some (B0 [(false,[.im 0 (V r2)])])) hl (by kernel_rfl) ?_ ?_ ?_
 ·intro o p hp e
  rcases o with u | r2<;>exact nomatch (hp.1.symm.trans e)
 ·rintro i_5_l2 o h
  unfold spec_l00Has_l2 at h
  refine gs<|gs<|g0 j j (q (oMv j j)<|q (oMv j j)<|q (oLnI j j uF33 j)<|q (oBi j j j j)<|nl)<|us<|gc h j iDec (fun hc5 h=>?_) fun hc5 h=>?_
  ·refine Go.skip<|us<|gs<|Go.block<|gs<|?_
   obtain ⟨x14,hx14,h⟩:=bs h
   refine g0 j j (q (oMv j j)<|q (oMv j j)<|q (oIAI j hx14 sF33 j j)<|q (oLd (cs:=[.im 2 _]) j tF2 j j)<|q (oMv j j)<|q (oBi j j j j)<|nl)<|us<|gc h j iEq (fun hc6 h=>?_) fun hc6 h=>?_
   ·refine gs<|g0 j j (q (oAsI j j)<|nl)<|us<|Go.ret (Unw.ret ?_)
    cases h
    exact ⟨j,(fo rF112 j)⟩
   ·refine Go.skip<|Unw.blk<|us<|g0 j j (q (oMv j j)<|q (oBi j j j j)<|q (oAsI j j)<|nl)<|Unw.nil<|?_
    cases h
    exact ⟨j,(by kernel_rfl)⟩
  ·refine Go.exit<|ux<|Unw.nil<|?_
   cases h
   exact ⟨j,(by kernel_rfl)⟩
 ·rintro ⟨e,st⟩ hp
  rcases o with u | r2
  ·dsimp only at h
   obtain ⟨he,hst⟩:=hp
   obtain rfl:e= .exit 0:=he
   refine Unw.blkx<|us<|gs<|g2 c112 j j hst (q (oAsI j j)<|nl)<|us<|Go.ret (Unw.ret ?_)
   cases h
   exact fr rF112 j
  ·dsimp only at h
   obtain ⟨he,hfin⟩:=hp
   obtain rfl:e= .ret:=he
   cases h
   exact Unw.ret (Fin_ret hfin)
theorem L_spec_l23Order {d_0:S_Drawing} {order_1:(List Int)} {r:Bool} (h:spec_l23Order d_0 order_1=some r):FX 95 [.im 2 false [.cp (u_S_Drawing d_0) 0],.im 2 false [W 1 eI order_1]] (B0 [(false,[.im 0 (V r)])]):=by
 unfold spec_l23Order at h
 refine gn 29 Tryz.func95 rfl ?_
 refine gs<|g0 j j (q (oAsI j j)<|nl)<|us<|gs<|gs<|g0 j j (q (oAsI j j)<|nl)<|us<|Go.block<|?_
 obtain ⟨o,hl,h⟩:=bs h
 refine gl c95 j _ (fun (i_5_l2:Int)=>mk [(0,D 2 (.cp (u_S_Drawing d_0) 0)),(1,D 2 (W 1 eI order_1)),(5,iv i_5_l2)] []) (fun (o:(Unit ⊕ Bool)) (p:Ex×St)=>match o with | (.inl _)=>p.1= .exit 0∧p.2.norm ([],[])=mk [] [] | (.inr r2)=>p.1= .ret∧fin Tryz.prog cfg 95 Tryz.f95 [.im 2 false [.cp (u_S_Drawing d_0) 0],.im 2 false [W 1 eI order_1]] p.2=some (B0 [(false,[.im 0 (V r2)])])) hl (by kernel_rfl) ?_ ?_ ?_
 ·intro o p hp e
  rcases o with u | r2<;>exact nomatch (hp.1.symm.trans e)
 ·rintro i_5_l2 o h
  unfold spec_l23Order_l2 at h
  refine gs<|gs<|g0 j j (q (oMv j j)<|q (oMv j j)<|q (oLnI j j uF33 j)<|q (oBi j j j j)<|nl)<|us<|gc h j iDec (fun hc9 h=>?_) fun hc9 h=>?_
  ·refine Go.skip<|us<|gs<|Go.block<|gs<|?_
   obtain ⟨x15,hx15,h⟩:=bs h
   obtain ⟨x17,hx17,h⟩:=bs h
   obtain ⟨t_28_m4,hm12,h⟩:=bs h
   refine gd c95 j j j j (mk [(0,D 2 (.cp (u_S_Drawing d_0) 0)),(1,D 2 (W 1 eI order_1)),(5,iv i_5_l2),(28,bv t_28_m4)] []) ?_ ?_
   ·refine t j j (oMv j j)<|t j j (oMv j j)<|t j j (oMv j j)<|t j j (oIAI j hx15 sF33 j j)<|?_
    refine ic hm12 (fun hc10 hm12=>?_) fun hc10 hm12=>?_
    ·obtain ⟨x25,hx25,hm12⟩:=bs hm12
     obtain ⟨x22,hx22,hm12⟩:=bs hm12
     obtain ⟨x27,hx27,hm12⟩:=bs hm12
     cases hm12
     exact t j j (oLd (cs:=[.im 2 _]) j tF2 j j)<|sS (dN z95 j (oCa (xs:=[.v false [.im 2 _],.v false [.im 2 _]]) (vs:=[(false,[.im 0 _])]) (v:=.v false [.im 0 _]) (L_spec_l05Face hx17) (.inl j) j kF141_114_2 j (ppC j (ppC j pp0)) j j pb0 j j j)) trivial (t j j (oUn j j j)<|t j j (oMv j j)<|tT j j j j (nF (iR.2 hc10)) (oMv j j)<|tT j j j j (nF (iR.2 hc10)) (oMv j j)<|tT j j j j (nF (iR.2 hc10)) (oMv j j)<|tT j j j j (nF (iR.2 hc10)) (oMv j j)<|tT j j j j (nF (iR.2 hc10)) (oIAI j hx25 sF33 j j)<|tT j j j j (nF (iR.2 hc10)) (oLd (cs:=[.im 2 _]) j tF2 j j)<|sS (dT z95 j j j (nF (iR.2 hc10)) (oSlI j hx22 sF33 j bn0 (bn1 j) j j)) trivial (sS (dT z95 j j j (nF (iR.2 hc10)) (oCa (xs:=[.v false [.im 2 _],.v false [.im 2 _]]) (vs:=[(false,[.im 0 _])]) (v:=.v false [.im 0 _]) (L_spec_l00Has hx27) (.inl j) j kF112_33_2 j (ppC j (ppC j pp0)) j j pb0 j j j)) trivial (t j j (oPkF j j (nF (iR.2 hc10)) j)<|sD (by kernel_rfl))))
    ·cases hm12
     exact t j j (oLd (cs:=[.im 2 _]) j tF2 j j)<|sS (dN z95 j (oCa (xs:=[.v false [.im 2 _],.v false [.im 2 _]]) (vs:=[(false,[.im 0 _])]) (v:=.v false [.im 0 _]) (L_spec_l05Face hx17) (.inl j) j kF141_114_2 j (ppC j (ppC j pp0)) j j pb0 j j j)) trivial (t j j (oUn j j j)<|t j j (oMv j j)<|tF j j j j (nT (byF iR hc10)) j<|tF j j j j (nT (byF iR hc10)) j<|tF j j j j (nT (byF iR hc10)) j<|tF j j j j (nT (byF iR hc10)) j<|tF j j j j (nT (byF iR hc10)) j<|tF j j j j (nT (byF iR hc10)) j<|sS (dF j j j (nT (byF iR hc10)) j) trivial (sS (dF j j j (nT (byF iR hc10)) j) trivial (t j j (oPkT j j (nT (byF iR hc10)) j)<|sD (by kernel_rfl))))
   ·refine us<|gc h j iR (fun hc11 h=>?_) fun hc11 h=>?_
    ·refine gs<|g0 j j (q (oAsI j j)<|nl)<|us<|Go.ret (Unw.ret ?_)
     cases h
     exact ⟨j,(fo rF95 j)⟩
    ·refine Go.skip<|Unw.blk<|us<|g0 j j (q (oMv j j)<|q (oBi j j j j)<|q (oAsI j j)<|nl)<|Unw.nil<|?_
     cases h
     exact ⟨j,(by kernel_rfl)⟩
  ·refine Go.exit<|ux<|Unw.nil<|?_
   cases h
   exact ⟨j,(by kernel_rfl)⟩
 ·rintro ⟨e,st⟩ hp
  rcases o with u | r2
  ·dsimp only at h
   obtain ⟨he,hst⟩:=hp
   obtain rfl:e= .exit 0:=he
   refine Unw.blkx<|us<|gs<|g2 c95 j j hst (q (oAsI j j)<|nl)<|us<|Go.ret (Unw.ret ?_)
   cases h
   exact fr rF95 j
  ·dsimp only at h
   obtain ⟨he,hfin⟩:=hp
   obtain rfl:e= .ret:=he
   cases h
   exact Unw.ret (Fin_ret hfin)
theorem L_spec_l31Ok {j_0:S_Job} {r:Bool} (h:spec_l31Ok j_0=some r):FX 39 [.im 2 false [.cp (u_S_Job j_0) 0]] (B0 [(false,[.im 0 (V r)])]):=by
 unfold spec_l31Ok at h
 refine gn 76 Tryz.func39 rfl ?_
 refine gs<|g0 j j (q (oAsI j j)<|nl)<|us<|gs<|gs<|?_
 obtain ⟨x6,hx6,h⟩:=bs h
 obtain ⟨t_41_m1,hm10,h⟩:=bs h
 refine gd c39 j j j j (mk [(0,D 2 (.cp (u_S_Job j_0) 0)),(41,bv t_41_m1)] []) ?_ ?_
 ·refine t j j (oMv j j)<|t j j (oNl j j j)<|?_
  refine ic hm10 (fun hc1 hm10=>?_) fun hc1 hm10=>?_
  ·obtain ⟨x13,hx13,hm10⟩:=bs hm10
   refine ic hm10 (fun hc2 hm10=>?_) fun hc2 hm10=>?_
   ·obtain ⟨x21,hx21,hm10⟩:=bs hm10
    refine ic hm10 (fun hc3 hm10=>?_) fun hc3 hm10=>?_
    ·obtain ⟨x32,hx32,hm10⟩:=bs hm10
     refine ic hm10 (fun hc4 hm10=>?_) fun hc4 hm10=>?_
     ·obtain ⟨x39,hx39,hm10⟩:=bs hm10
      cases hm10
      exact t j j (oFA (r':=.im 2 _) j fF49_0 j j)<|sS (dN z39 j (oCa (xs:=[.v false [.im 2 _]]) (vs:=[(false,[.im 0 _])]) (v:=.v false [.im 0 _]) (L_spec_l08Ok hx6) (.inl j) j kF87_155 j (ppC j pp0) j j pb0 j j j)) trivial (t j j (oUn j j j)<|t j j (oMv j j)<|tT j j j j (nF (iR.2 hc1)) (oMv j j)<|tT j j j j (nF (iR.2 hc1)) (oNl j j j)<|tT j j j j (nF (iR.2 hc1)) (oFA (r':=.im 2 _) j fF49_1 j j)<|tT j j j j (nF (iR.2 hc1)) (oLd (cs:=[.im 2 _]) j tF45 j j)<|sS (dT z39 j j j (nF (iR.2 hc1)) (oCa (xs:=[.v false [.im 2 _]]) (vs:=[(false,[.im 0 _])]) (v:=.v false [.im 0 _]) (L_spec_l09Ok hx13) (.inl j) j kF88_45 j (ppC j pp0) j j pb0 j j j)) trivial (tT j j j j (nF (iR.2 hc1)) (oUn j j j)<|t j j (oPkF j j (nF (iR.2 hc1)) j)<|t j j (oMv j j)<|tT j j j j (nF (iR.2 hc2)) (oMv j j)<|tT j j j j (nF (iR.2 hc2)) (oNl j j j)<|tT j j j j (nF (iR.2 hc2)) (oFA (r':=.im 2 _) j fF49_2 j j)<|tT j j j j (nF (iR.2 hc2)) (oLd (cs:=[.im 2 _]) j tF46 j j)<|sS (dT z39 j j j (nF (iR.2 hc2)) (oCa (xs:=[.v false [.im 2 _]]) (vs:=[(false,[.im 0 _])]) (v:=.v false [.im 0 _]) (L_spec_l11Ok hx21) (.inl j) j kF89_46 j (ppC j pp0) j j pb0 j j j)) trivial (tT j j j j (nF (iR.2 hc2)) (oUn j j j)<|t j j (oPkF j j (nF (iR.2 hc2)) j)<|t j j (oMv j j)<|tT j j j j (nF (iR.2 hc3)) (oMv j j)<|tT j j j j (nF (iR.2 hc3)) (oNl j j j)<|tT j j j j (nF (iR.2 hc3)) (oFA (r':=.im 2 _) j fF49_0 j j)<|tT j j j j (nF (iR.2 hc3)) (oMv j j)<|tT j j j j (nF (iR.2 hc3)) (oNl j j j)<|tT j j j j (nF (iR.2 hc3)) (oFA (r':=.im 2 _) j fF49_2 j j)<|tT j j j j (nF (iR.2 hc3)) (oLd (cs:=[.im 2 _]) j tF46 j j)<|sS (dT z39 j j j (nF (iR.2 hc3)) (oCa (xs:=[.v false [.im 2 _],.v false [.im 2 _]]) (vs:=[(false,[.im 0 _])]) (v:=.v false [.im 0 _]) (L_spec_l11Fits hx32) (.inl j) j kF90_155_46 j (ppC j (ppC j pp0)) j j pb0 j j j)) trivial (tT j j j j (nF (iR.2 hc3)) (oUn j j j)<|t j j (oPkF j j (nF (iR.2 hc3)) j)<|t j j (oMv j j)<|tT j j j j (nF (iR.2 hc4)) (oMv j j)<|tT j j j j (nF (iR.2 hc4)) (oNl j j j)<|tT j j j j (nF (iR.2 hc4)) (oFA (r':=.im 2 _) j fF49_3 j j)<|sS (dT z39 j j j (nF (iR.2 hc4)) (oCa (xs:=[.v false [.im 2 _]]) (vs:=[(false,[.im 0 _])]) (v:=.v false [.im 0 _]) (L_spec_l11Rules hx39) (.inl j) j kF91_158 j (ppC j pp0) j j pb0 j j j)) trivial (tT j j j j (nF (iR.2 hc4)) (oUn j j j)<|t j j (oPkF j j (nF (iR.2 hc4)) j)<|sD (by kernel_rfl))))))
     ·cases hm10
      exact t j j (oFA (r':=.im 2 _) j fF49_0 j j)<|sS (dN z39 j (oCa (xs:=[.v false [.im 2 _]]) (vs:=[(false,[.im 0 _])]) (v:=.v false [.im 0 _]) (L_spec_l08Ok hx6) (.inl j) j kF87_155 j (ppC j pp0) j j pb0 j j j)) trivial (t j j (oUn j j j)<|t j j (oMv j j)<|tT j j j j (nF (iR.2 hc1)) (oMv j j)<|tT j j j j (nF (iR.2 hc1)) (oNl j j j)<|tT j j j j (nF (iR.2 hc1)) (oFA (r':=.im 2 _) j fF49_1 j j)<|tT j j j j (nF (iR.2 hc1)) (oLd (cs:=[.im 2 _]) j tF45 j j)<|sS (dT z39 j j j (nF (iR.2 hc1)) (oCa (xs:=[.v false [.im 2 _]]) (vs:=[(false,[.im 0 _])]) (v:=.v false [.im 0 _]) (L_spec_l09Ok hx13) (.inl j) j kF88_45 j (ppC j pp0) j j pb0 j j j)) trivial (tT j j j j (nF (iR.2 hc1)) (oUn j j j)<|t j j (oPkF j j (nF (iR.2 hc1)) j)<|t j j (oMv j j)<|tT j j j j (nF (iR.2 hc2)) (oMv j j)<|tT j j j j (nF (iR.2 hc2)) (oNl j j j)<|tT j j j j (nF (iR.2 hc2)) (oFA (r':=.im 2 _) j fF49_2 j j)<|tT j j j j (nF (iR.2 hc2)) (oLd (cs:=[.im 2 _]) j tF46 j j)<|sS (dT z39 j j j (nF (iR.2 hc2)) (oCa (xs:=[.v false [.im 2 _]]) (vs:=[(false,[.im 0 _])]) (v:=.v false [.im 0 _]) (L_spec_l11Ok hx21) (.inl j) j kF89_46 j (ppC j pp0) j j pb0 j j j)) trivial (tT j j j j (nF (iR.2 hc2)) (oUn j j j)<|t j j (oPkF j j (nF (iR.2 hc2)) j)<|t j j (oMv j j)<|tT j j j j (nF (iR.2 hc3)) (oMv j j)<|tT j j j j (nF (iR.2 hc3)) (oNl j j j)<|tT j j j j (nF (iR.2 hc3)) (oFA (r':=.im 2 _) j fF49_0 j j)<|tT j j j j (nF (iR.2 hc3)) (oMv j j)<|tT j j j j (nF (iR.2 hc3)) (oNl j j j)<|tT j j j j (nF (iR.2 hc3)) (oFA (r':=.im 2 _) j fF49_2 j j)<|tT j j j j (nF (iR.2 hc3)) (oLd (cs:=[.im 2 _]) j tF46 j j)<|sS (dT z39 j j j (nF (iR.2 hc3)) (oCa (xs:=[.v false [.im 2 _],.v false [.im 2 _]]) (vs:=[(false,[.im 0 _])]) (v:=.v false [.im 0 _]) (L_spec_l11Fits hx32) (.inl j) j kF90_155_46 j (ppC j (ppC j pp0)) j j pb0 j j j)) trivial (tT j j j j (nF (iR.2 hc3)) (oUn j j j)<|t j j (oPkF j j (nF (iR.2 hc3)) j)<|t j j (oMv j j)<|tF j j j j (nT (byF iR hc4)) j<|tF j j j j (nT (byF iR hc4)) j<|tF j j j j (nT (byF iR hc4)) j<|sS (dF j j j (nT (byF iR hc4)) j) trivial (tF j j j j (nT (byF iR hc4)) j<|t j j (oPkT j j (nT (byF iR hc4)) j)<|sD (by kernel_rfl))))))
    ·cases hm10
     exact t j j (oFA (r':=.im 2 _) j fF49_0 j j)<|sS (dN z39 j (oCa (xs:=[.v false [.im 2 _]]) (vs:=[(false,[.im 0 _])]) (v:=.v false [.im 0 _]) (L_spec_l08Ok hx6) (.inl j) j kF87_155 j (ppC j pp0) j j pb0 j j j)) trivial (t j j (oUn j j j)<|t j j (oMv j j)<|tT j j j j (nF (iR.2 hc1)) (oMv j j)<|tT j j j j (nF (iR.2 hc1)) (oNl j j j)<|tT j j j j (nF (iR.2 hc1)) (oFA (r':=.im 2 _) j fF49_1 j j)<|tT j j j j (nF (iR.2 hc1)) (oLd (cs:=[.im 2 _]) j tF45 j j)<|sS (dT z39 j j j (nF (iR.2 hc1)) (oCa (xs:=[.v false [.im 2 _]]) (vs:=[(false,[.im 0 _])]) (v:=.v false [.im 0 _]) (L_spec_l09Ok hx13) (.inl j) j kF88_45 j (ppC j pp0) j j pb0 j j j)) trivial (tT j j j j (nF (iR.2 hc1)) (oUn j j j)<|t j j (oPkF j j (nF (iR.2 hc1)) j)<|t j j (oMv j j)<|tT j j j j (nF (iR.2 hc2)) (oMv j j)<|tT j j j j (nF (iR.2 hc2)) (oNl j j j)<|tT j j j j (nF (iR.2 hc2)) (oFA (r':=.im 2 _) j fF49_2 j j)<|tT j j j j (nF (iR.2 hc2)) (oLd (cs:=[.im 2 _]) j tF46 j j)<|sS (dT z39 j j j (nF (iR.2 hc2)) (oCa (xs:=[.v false [.im 2 _]]) (vs:=[(false,[.im 0 _])]) (v:=.v false [.im 0 _]) (L_spec_l11Ok hx21) (.inl j) j kF89_46 j (ppC j pp0) j j pb0 j j j)) trivial (tT j j j j (nF (iR.2 hc2)) (oUn j j j)<|t j j (oPkF j j (nF (iR.2 hc2)) j)<|t j j (oMv j j)<|tF j j j j (nT (byF iR hc3)) j<|tF j j j j (nT (byF iR hc3)) j<|tF j j j j (nT (byF iR hc3)) j<|tF j j j j (nT (byF iR hc3)) j<|tF j j j j (nT (byF iR hc3)) j<|tF j j j j (nT (byF iR hc3)) j<|tF j j j j (nT (byF iR hc3)) j<|sS (dF j j j (nT (byF iR hc3)) j) trivial (tF j j j j (nT (byF iR hc3)) j<|t j j (oPkT j j (nT (byF iR hc3)) j)<|t j j (oMv j j)<|tF j j j j j j<|tF j j j j j j<|tF j j j j j j<|sS (dF j j j j j) trivial (tF j j j j j j<|t j j (oPkT j j j j)<|sD (by kernel_rfl))))))
   ·cases hm10
    exact t j j (oFA (r':=.im 2 _) j fF49_0 j j)<|sS (dN z39 j (oCa (xs:=[.v false [.im 2 _]]) (vs:=[(false,[.im 0 _])]) (v:=.v false [.im 0 _]) (L_spec_l08Ok hx6) (.inl j) j kF87_155 j (ppC j pp0) j j pb0 j j j)) trivial (t j j (oUn j j j)<|t j j (oMv j j)<|tT j j j j (nF (iR.2 hc1)) (oMv j j)<|tT j j j j (nF (iR.2 hc1)) (oNl j j j)<|tT j j j j (nF (iR.2 hc1)) (oFA (r':=.im 2 _) j fF49_1 j j)<|tT j j j j (nF (iR.2 hc1)) (oLd (cs:=[.im 2 _]) j tF45 j j)<|sS (dT z39 j j j (nF (iR.2 hc1)) (oCa (xs:=[.v false [.im 2 _]]) (vs:=[(false,[.im 0 _])]) (v:=.v false [.im 0 _]) (L_spec_l09Ok hx13) (.inl j) j kF88_45 j (ppC j pp0) j j pb0 j j j)) trivial (tT j j j j (nF (iR.2 hc1)) (oUn j j j)<|t j j (oPkF j j (nF (iR.2 hc1)) j)<|t j j (oMv j j)<|tF j j j j (nT (byF iR hc2)) j<|tF j j j j (nT (byF iR hc2)) j<|tF j j j j (nT (byF iR hc2)) j<|tF j j j j (nT (byF iR hc2)) j<|sS (dF j j j (nT (byF iR hc2)) j) trivial (tF j j j j (nT (byF iR hc2)) j<|t j j (oPkT j j (nT (byF iR hc2)) j)<|t j j (oMv j j)<|tF j j j j j j<|tF j j j j j j<|tF j j j j j j<|tF j j j j j j<|tF j j j j j j<|tF j j j j j j<|tF j j j j j j<|sS (dF j j j j j) trivial (tF j j j j j j<|t j j (oPkT j j j j)<|t j j (oMv j j)<|tF j j j j j j<|tF j j j j j j<|tF j j j j j j<|sS (dF j j j j j) trivial (tF j j j j j j<|t j j (oPkT j j j j)<|sD (by kernel_rfl))))))
  ·cases hm10
   exact t j j (oFA (r':=.im 2 _) j fF49_0 j j)<|sS (dN z39 j (oCa (xs:=[.v false [.im 2 _]]) (vs:=[(false,[.im 0 _])]) (v:=.v false [.im 0 _]) (L_spec_l08Ok hx6) (.inl j) j kF87_155 j (ppC j pp0) j j pb0 j j j)) trivial (t j j (oUn j j j)<|t j j (oMv j j)<|tF j j j j (nT (byF iR hc1)) j<|tF j j j j (nT (byF iR hc1)) j<|tF j j j j (nT (byF iR hc1)) j<|tF j j j j (nT (byF iR hc1)) j<|sS (dF j j j (nT (byF iR hc1)) j) trivial (tF j j j j (nT (byF iR hc1)) j<|t j j (oPkT j j (nT (byF iR hc1)) j)<|t j j (oMv j j)<|tF j j j j j j<|tF j j j j j j<|tF j j j j j j<|tF j j j j j j<|sS (dF j j j j j) trivial (tF j j j j j j<|t j j (oPkT j j j j)<|t j j (oMv j j)<|tF j j j j j j<|tF j j j j j j<|tF j j j j j j<|tF j j j j j j<|tF j j j j j j<|tF j j j j j j<|tF j j j j j j<|sS (dF j j j j j) trivial (tF j j j j j j<|t j j (oPkT j j j j)<|t j j (oMv j j)<|tF j j j j j j<|tF j j j j j j<|tF j j j j j j<|sS (dF j j j j j) trivial (tF j j j j j j<|t j j (oPkT j j j j)<|sD (by kernel_rfl))))))
 ·refine us<|gc h j iR (fun hc5 h=>?_) fun hc5 h=>?_
  ·refine gs<|g0 j j (q (oAsI j j)<|nl)<|us<|Go.ret (Unw.ret ?_)
   cases h
   exact fr rF39 j
  ·refine Go.skip<|us<|gs<|?_
   obtain ⟨x50,hx50,h⟩:=bs h
   obtain ⟨t_2_m3,hm9,h⟩:=bs h
   refine gd c39 j j j j (mk [(2,bv t_2_m3)] []) ?_ ?_
   ·refine t j j (oMv j j)<|t j j (oNl j j j)<|t j j (oFA (r':=.im 2 _) j fF49_4 j j)<|t j j (oLd (cs:=[.im 2 _]) j tF2 j j)<|t j j (oMv j j)<|t j j (oNl j j j)<|t j j (oFA (r':=.im 2 _) j fF49_5 j j)<|?_
    refine ic hm9 (fun hc6 hm9=>?_) fun hc6 hm9=>?_
    ·obtain ⟨x56,hx56,hm9⟩:=bs hm9
     refine ic hm9 (fun hc7 hm9=>?_) fun hc7 hm9=>?_
     ·obtain ⟨x63,hx63,hm9⟩:=bs hm9
      refine ic hm9 (fun hc8 hm9=>?_) fun hc8 hm9=>?_
      ·obtain ⟨x74,hx74,hm9⟩:=bs hm9
       cases hm9
       exact t j j (oLd (cs:=[.im 2 _]) j tF2 j j)<|sS (dN z39 j (oCa (xs:=[.v false [.im 2 _],.v false [.im 2 _]]) (vs:=[(false,[.im 0 _])]) (v:=.v false [.im 0 _]) (L_spec_l13Sheet hx50) (.inl j) j kF92_2_2 j (ppC j (ppC j pp0)) j j pb0 j j j)) trivial (t j j (oMv j j)<|tT j j j j (iR.2 hc6) (oMv j j)<|tT j j j j (iR.2 hc6) (oNl j j j)<|tT j j j j (iR.2 hc6) (oFA (r':=.im 2 _) j fF49_6 j j)<|tT j j j j (iR.2 hc6) (oLd (cs:=[.im 2 _]) j tF2 j j)<|sS (dT z39 j j j (iR.2 hc6) (oCa (xs:=[.v false [.im 2 _]]) (vs:=[(false,[.im 0 _])]) (v:=.v false [.im 0 _]) (L_spec_l13Angle hx56) (.inl j) j kF93_2 j (ppC j pp0) j j pb0 j j j)) trivial (t j j (oPkT j j (iR.2 hc6) j)<|t j j (oMv j j)<|tT j j j j (iR.2 hc7) (oMv j j)<|tT j j j j (iR.2 hc7) (oNl j j j)<|tT j j j j (iR.2 hc7) (oFA (r':=.im 2 _) j fF49_7 j j)<|tT j j j j (iR.2 hc7) (oLd (cs:=[.im 2 _]) j tF2 j j)<|sS (dT z39 j j j (iR.2 hc7) (oCa (xs:=[.v false [.im 2 _]]) (vs:=[(false,[.im 0 _])]) (v:=.v false [.im 0 _]) (L_spec_l13Tolerance hx63) (.inl j) j kF94_2 j (ppC j pp0) j j pb0 j j j)) trivial (t j j (oPkT j j (iR.2 hc7) j)<|t j j (oMv j j)<|tT j j j j (iR.2 hc8) (oMv j j)<|tT j j j j (iR.2 hc8) (oNl j j j)<|tT j j j j (iR.2 hc8) (oFA (r':=.im 2 _) j fF49_0 j j)<|tT j j j j (iR.2 hc8) (oFA (r':=.im 2 _) j fF44_0 j j)<|tT j j j j (iR.2 hc8) (oMv j j)<|tT j j j j (iR.2 hc8) (oNl j j j)<|tT j j j j (iR.2 hc8) (oFA (r':=.im 2 _) j fF49_8 j j)<|tT j j j j (iR.2 hc8) (oLd (cs:=[.im 2 _]) j tF33 j j)<|sS (dT z39 j j j (iR.2 hc8) (oCa (xs:=[.v false [.im 2 _],.v false [.im 2 _]]) (vs:=[(false,[.im 0 _])]) (v:=.v false [.im 0 _]) (L_spec_l23Order hx74) (.inl j) j kF95_114_33 j (ppC j (ppC j pp0)) j j pb0 j j j)) trivial (t j j (oPkT j j (iR.2 hc8) j)<|sS (dN z39 j (oAsI j j)) trivial (sD (by kernel_rfl))))))
      ·cases hm9
       exact t j j (oLd (cs:=[.im 2 _]) j tF2 j j)<|sS (dN z39 j (oCa (xs:=[.v false [.im 2 _],.v false [.im 2 _]]) (vs:=[(false,[.im 0 _])]) (v:=.v false [.im 0 _]) (L_spec_l13Sheet hx50) (.inl j) j kF92_2_2 j (ppC j (ppC j pp0)) j j pb0 j j j)) trivial (t j j (oMv j j)<|tT j j j j (iR.2 hc6) (oMv j j)<|tT j j j j (iR.2 hc6) (oNl j j j)<|tT j j j j (iR.2 hc6) (oFA (r':=.im 2 _) j fF49_6 j j)<|tT j j j j (iR.2 hc6) (oLd (cs:=[.im 2 _]) j tF2 j j)<|sS (dT z39 j j j (iR.2 hc6) (oCa (xs:=[.v false [.im 2 _]]) (vs:=[(false,[.im 0 _])]) (v:=.v false [.im 0 _]) (L_spec_l13Angle hx56) (.inl j) j kF93_2 j (ppC j pp0) j j pb0 j j j)) trivial (t j j (oPkT j j (iR.2 hc6) j)<|t j j (oMv j j)<|tT j j j j (iR.2 hc7) (oMv j j)<|tT j j j j (iR.2 hc7) (oNl j j j)<|tT j j j j (iR.2 hc7) (oFA (r':=.im 2 _) j fF49_7 j j)<|tT j j j j (iR.2 hc7) (oLd (cs:=[.im 2 _]) j tF2 j j)<|sS (dT z39 j j j (iR.2 hc7) (oCa (xs:=[.v false [.im 2 _]]) (vs:=[(false,[.im 0 _])]) (v:=.v false [.im 0 _]) (L_spec_l13Tolerance hx63) (.inl j) j kF94_2 j (ppC j pp0) j j pb0 j j j)) trivial (t j j (oPkT j j (iR.2 hc7) j)<|t j j (oMv j j)<|tF j j j j (byF iR hc8) j<|tF j j j j (byF iR hc8) j<|tF j j j j (byF iR hc8) j<|tF j j j j (byF iR hc8) j<|tF j j j j (byF iR hc8) j<|tF j j j j (byF iR hc8) j<|tF j j j j (byF iR hc8) j<|tF j j j j (byF iR hc8) j<|sS (dF j j j (byF iR hc8) j) trivial (t j j (oPkF j j (byF iR hc8) j)<|sS (dN z39 j (oAsI j j)) trivial (sD (by kernel_rfl))))))
     ·cases hm9
      exact t j j (oLd (cs:=[.im 2 _]) j tF2 j j)<|sS (dN z39 j (oCa (xs:=[.v false [.im 2 _],.v false [.im 2 _]]) (vs:=[(false,[.im 0 _])]) (v:=.v false [.im 0 _]) (L_spec_l13Sheet hx50) (.inl j) j kF92_2_2 j (ppC j (ppC j pp0)) j j pb0 j j j)) trivial (t j j (oMv j j)<|tT j j j j (iR.2 hc6) (oMv j j)<|tT j j j j (iR.2 hc6) (oNl j j j)<|tT j j j j (iR.2 hc6) (oFA (r':=.im 2 _) j fF49_6 j j)<|tT j j j j (iR.2 hc6) (oLd (cs:=[.im 2 _]) j tF2 j j)<|sS (dT z39 j j j (iR.2 hc6) (oCa (xs:=[.v false [.im 2 _]]) (vs:=[(false,[.im 0 _])]) (v:=.v false [.im 0 _]) (L_spec_l13Angle hx56) (.inl j) j kF93_2 j (ppC j pp0) j j pb0 j j j)) trivial (t j j (oPkT j j (iR.2 hc6) j)<|t j j (oMv j j)<|tF j j j j (byF iR hc7) j<|tF j j j j (byF iR hc7) j<|tF j j j j (byF iR hc7) j<|tF j j j j (byF iR hc7) j<|sS (dF j j j (byF iR hc7) j) trivial (t j j (oPkF j j (byF iR hc7) j)<|t j j (oMv j j)<|tF j j j j j j<|tF j j j j j j<|tF j j j j j j<|tF j j j j j j<|tF j j j j j j<|tF j j j j j j<|tF j j j j j j<|tF j j j j j j<|sS (dF j j j j j) trivial (t j j (oPkF j j j j)<|sS (dN z39 j (oAsI j j)) trivial (sD (by kernel_rfl))))))
    ·cases hm9
     exact t j j (oLd (cs:=[.im 2 _]) j tF2 j j)<|sS (dN z39 j (oCa (xs:=[.v false [.im 2 _],.v false [.im 2 _]]) (vs:=[(false,[.im 0 _])]) (v:=.v false [.im 0 _]) (L_spec_l13Sheet hx50) (.inl j) j kF92_2_2 j (ppC j (ppC j pp0)) j j pb0 j j j)) trivial (t j j (oMv j j)<|tF j j j j (byF iR hc6) j<|tF j j j j (byF iR hc6) j<|tF j j j j (byF iR hc6) j<|tF j j j j (byF iR hc6) j<|sS (dF j j j (byF iR hc6) j) trivial (t j j (oPkF j j (byF iR hc6) j)<|t j j (oMv j j)<|tF j j j j j j<|tF j j j j j j<|tF j j j j j j<|tF j j j j j j<|sS (dF j j j j j) trivial (t j j (oPkF j j j j)<|t j j (oMv j j)<|tF j j j j j j<|tF j j j j j j<|tF j j j j j j<|tF j j j j j j<|tF j j j j j j<|tF j j j j j j<|tF j j j j j j<|tF j j j j j j<|sS (dF j j j j j) trivial (t j j (oPkF j j j j)<|sS (dN z39 j (oAsI j j)) trivial (sD (by kernel_rfl))))))
   ·refine us<|Go.ret (Unw.ret ?_)
    cases h
    exact fr rF39 j
theorem L_spec_l24One {b_0:S_Bond} {r:Bool} (h:spec_l24One b_0=some r):FX 168 [.im 2 false [.cp (u_S_Bond b_0) 0]] (B0 [(false,[.im 0 (V r)])]):=by
 unfold spec_l24One at h
 refine gn 33 Tryz.func168 rfl ?_
 refine gs<|g0 j j (q (oAsI j j)<|nl)<|us<|gs<|?_
 obtain ⟨x7,hx7,h⟩:=bs h
 obtain ⟨t_2_m1,hm4,h⟩:=bs h
 refine gd c168 j j j j (mk [(2,bv t_2_m1)] []) ?_ ?_
 ·refine t j j (oMv j j)<|t j j (oNl j j j)<|t j j (oFA (r':=.im 2 _) j fF209_0 j j)<|?_
  refine ic hm4 (fun hc1 hm4=>?_) fun hc1 hm4=>?_
  ·obtain ⟨x13,hx13,hm4⟩:=bs hm4
   refine ic hm4 (fun hc2 hm4=>?_) fun hc2 hm4=>?_
   ·obtain ⟨x24,hx24,hm4⟩:=bs hm4
    refine ic hm4 (fun hc3 hm4=>?_) fun hc3 hm4=>?_
    ·obtain ⟨x31,hx31,hm4⟩:=bs hm4
     cases hm4
     exact t j j (oLd (cs:=[.im 2 _]) j tF9 j j)<|sS (dN z168 j (oCa (xs:=[.v false [.im 2 _]]) (vs:=[(false,[.im 0 _])]) (v:=.v false [.im 0 _]) (L_spec_l01Name hx7) (.inl j) j kF156_9 j (ppC j pp0) j j pb0 j j j)) trivial (t j j (oMv j j)<|tT j j j j (iR.2 hc1) (oMv j j)<|tT j j j j (iR.2 hc1) (oNl j j j)<|tT j j j j (iR.2 hc1) (oFA (r':=.im 2 _) j fF209_1 j j)<|tT j j j j (iR.2 hc1) (oLd (cs:=[.im 2 _]) j tF2 j j)<|sS (dT z168 j j j (iR.2 hc1) (oCa (xs:=[.v false [.im 2 _],.v false [.im 0 _],.v false [.im 0 _]]) (vs:=[(false,[.im 0 _])]) (v:=.v false [.im 0 _]) (L_spec_l00In hx13) (.inl j) j kF108_2_2_2 j (ppC j (ppC j (ppC j pp0))) j j pb0 j j j)) trivial (t j j (oPkT j j (iR.2 hc1) j)<|t j j (oMv j j)<|tT j j j j (iR.2 hc2) (oMv j j)<|tT j j j j (iR.2 hc2) (oNl j j j)<|tT j j j j (iR.2 hc2) (oFA (r':=.im 2 _) j fF209_2 j j)<|tT j j j j (iR.2 hc2) (oLd (cs:=[.im 2 _]) j tF2 j j)<|tT j j j j (iR.2 hc2) (oMv j j)<|tT j j j j (iR.2 hc2) (oNl j j j)<|tT j j j j (iR.2 hc2) (oFA (r':=.im 2 _) j fF209_1 j j)<|tT j j j j (iR.2 hc2) (oLd (cs:=[.im 2 _]) j tF2 j j)<|sS (dT z168 j j j (iR.2 hc2) (oCa (xs:=[.v false [.im 2 _],.v false [.im 2 _],.v false [.im 0 _]]) (vs:=[(false,[.im 0 _])]) (v:=.v false [.im 0 _]) (L_spec_l00In hx24) (.inl j) j kF108_2_2_2 j (ppC j (ppC j (ppC j pp0))) j j pb0 j j j)) trivial (t j j (oPkT j j (iR.2 hc2) j)<|t j j (oMv j j)<|tT j j j j (iR.2 hc3) (oMv j j)<|tT j j j j (iR.2 hc3) (oNl j j j)<|tT j j j j (iR.2 hc3) (oFA (r':=.im 2 _) j fF209_3 j j)<|tT j j j j (iR.2 hc3) (oLd (cs:=[.im 2 _]) j tF2 j j)<|sS (dT z168 j j j (iR.2 hc3) (oCa (xs:=[.v false [.im 2 _],.v false [.im 0 _],.v false [.im 0 _]]) (vs:=[(false,[.im 0 _])]) (v:=.v false [.im 0 _]) (L_spec_l00In hx31) (.inl j) j kF108_2_2_2 j (ppC j (ppC j (ppC j pp0))) j j pb0 j j j)) trivial (t j j (oPkT j j (iR.2 hc3) j)<|sS (dN z168 j (oAsI j j)) trivial (sD (by kernel_rfl))))))
    ·cases hm4
     exact t j j (oLd (cs:=[.im 2 _]) j tF9 j j)<|sS (dN z168 j (oCa (xs:=[.v false [.im 2 _]]) (vs:=[(false,[.im 0 _])]) (v:=.v false [.im 0 _]) (L_spec_l01Name hx7) (.inl j) j kF156_9 j (ppC j pp0) j j pb0 j j j)) trivial (t j j (oMv j j)<|tT j j j j (iR.2 hc1) (oMv j j)<|tT j j j j (iR.2 hc1) (oNl j j j)<|tT j j j j (iR.2 hc1) (oFA (r':=.im 2 _) j fF209_1 j j)<|tT j j j j (iR.2 hc1) (oLd (cs:=[.im 2 _]) j tF2 j j)<|sS (dT z168 j j j (iR.2 hc1) (oCa (xs:=[.v false [.im 2 _],.v false [.im 0 _],.v false [.im 0 _]]) (vs:=[(false,[.im 0 _])]) (v:=.v false [.im 0 _]) (L_spec_l00In hx13) (.inl j) j kF108_2_2_2 j (ppC j (ppC j (ppC j pp0))) j j pb0 j j j)) trivial (t j j (oPkT j j (iR.2 hc1) j)<|t j j (oMv j j)<|tT j j j j (iR.2 hc2) (oMv j j)<|tT j j j j (iR.2 hc2) (oNl j j j)<|tT j j j j (iR.2 hc2) (oFA (r':=.im 2 _) j fF209_2 j j)<|tT j j j j (iR.2 hc2) (oLd (cs:=[.im 2 _]) j tF2 j j)<|tT j j j j (iR.2 hc2) (oMv j j)<|tT j j j j (iR.2 hc2) (oNl j j j)<|tT j j j j (iR.2 hc2) (oFA (r':=.im 2 _) j fF209_1 j j)<|tT j j j j (iR.2 hc2) (oLd (cs:=[.im 2 _]) j tF2 j j)<|sS (dT z168 j j j (iR.2 hc2) (oCa (xs:=[.v false [.im 2 _],.v false [.im 2 _],.v false [.im 0 _]]) (vs:=[(false,[.im 0 _])]) (v:=.v false [.im 0 _]) (L_spec_l00In hx24) (.inl j) j kF108_2_2_2 j (ppC j (ppC j (ppC j pp0))) j j pb0 j j j)) trivial (t j j (oPkT j j (iR.2 hc2) j)<|t j j (oMv j j)<|tF j j j j (byF iR hc3) j<|tF j j j j (byF iR hc3) j<|tF j j j j (byF iR hc3) j<|tF j j j j (byF iR hc3) j<|sS (dF j j j (byF iR hc3) j) trivial (t j j (oPkF j j (byF iR hc3) j)<|sS (dN z168 j (oAsI j j)) trivial (sD (by kernel_rfl))))))
   ·cases hm4
    exact t j j (oLd (cs:=[.im 2 _]) j tF9 j j)<|sS (dN z168 j (oCa (xs:=[.v false [.im 2 _]]) (vs:=[(false,[.im 0 _])]) (v:=.v false [.im 0 _]) (L_spec_l01Name hx7) (.inl j) j kF156_9 j (ppC j pp0) j j pb0 j j j)) trivial (t j j (oMv j j)<|tT j j j j (iR.2 hc1) (oMv j j)<|tT j j j j (iR.2 hc1) (oNl j j j)<|tT j j j j (iR.2 hc1) (oFA (r':=.im 2 _) j fF209_1 j j)<|tT j j j j (iR.2 hc1) (oLd (cs:=[.im 2 _]) j tF2 j j)<|sS (dT z168 j j j (iR.2 hc1) (oCa (xs:=[.v false [.im 2 _],.v false [.im 0 _],.v false [.im 0 _]]) (vs:=[(false,[.im 0 _])]) (v:=.v false [.im 0 _]) (L_spec_l00In hx13) (.inl j) j kF108_2_2_2 j (ppC j (ppC j (ppC j pp0))) j j pb0 j j j)) trivial (t j j (oPkT j j (iR.2 hc1) j)<|t j j (oMv j j)<|tF j j j j (byF iR hc2) j<|tF j j j j (byF iR hc2) j<|tF j j j j (byF iR hc2) j<|tF j j j j (byF iR hc2) j<|tF j j j j (byF iR hc2) j<|tF j j j j (byF iR hc2) j<|tF j j j j (byF iR hc2) j<|tF j j j j (byF iR hc2) j<|sS (dF j j j (byF iR hc2) j) trivial (t j j (oPkF j j (byF iR hc2) j)<|t j j (oMv j j)<|tF j j j j j j<|tF j j j j j j<|tF j j j j j j<|tF j j j j j j<|sS (dF j j j j j) trivial (t j j (oPkF j j j j)<|sS (dN z168 j (oAsI j j)) trivial (sD (by kernel_rfl))))))
  ·cases hm4
   exact t j j (oLd (cs:=[.im 2 _]) j tF9 j j)<|sS (dN z168 j (oCa (xs:=[.v false [.im 2 _]]) (vs:=[(false,[.im 0 _])]) (v:=.v false [.im 0 _]) (L_spec_l01Name hx7) (.inl j) j kF156_9 j (ppC j pp0) j j pb0 j j j)) trivial (t j j (oMv j j)<|tF j j j j (byF iR hc1) j<|tF j j j j (byF iR hc1) j<|tF j j j j (byF iR hc1) j<|tF j j j j (byF iR hc1) j<|sS (dF j j j (byF iR hc1) j) trivial (t j j (oPkF j j (byF iR hc1) j)<|t j j (oMv j j)<|tF j j j j j j<|tF j j j j j j<|tF j j j j j j<|tF j j j j j j<|tF j j j j j j<|tF j j j j j j<|tF j j j j j j<|tF j j j j j j<|sS (dF j j j j j) trivial (t j j (oPkF j j j j)<|t j j (oMv j j)<|tF j j j j j j<|tF j j j j j j<|tF j j j j j j<|tF j j j j j j<|sS (dF j j j j j) trivial (t j j (oPkF j j j j)<|sS (dN z168 j (oAsI j j)) trivial (sD (by kernel_rfl))))))
 ·refine us<|Go.ret (Unw.ret ?_)
  cases h
  exact fr rF168 j
theorem L_spec_l24Ok {list_0:(List S_Bond)} {r:Bool} (h:spec_l24Ok list_0=some r):FX 127 [.im 2 false [W 4 e_S_Bond list_0]] (B0 [(false,[.im 0 (V r)])]):=by
 unfold spec_l24Ok at h
 refine gn 36 Tryz.func127 rfl ?_
 refine gs<|g0 j j (q (oAsI j j)<|nl)<|us<|gs<|gs<|g0 j j (q (oAsI j j)<|nl)<|us<|Go.block<|?_
 obtain ⟨o,hl,h⟩:=bs h
 refine gl c127 j _ (fun (i_3_l2:Int)=>mk [(0,D 2 (W 4 e_S_Bond list_0)),(3,iv i_3_l2)] []) (fun (o:(Unit ⊕ Bool)) (p:Ex×St)=>match o with | (.inl _)=>p.1= .exit 0∧p.2.norm ([0],[])=mk [(0,D 2 (W 4 e_S_Bond list_0))] [] | (.inr r2)=>p.1= .ret∧fin Tryz.prog cfg 127 Tryz.f127 [.im 2 false [W 4 e_S_Bond list_0]] p.2=some (B0 [(false,[.im 0 (V r2)])])) hl (by kernel_rfl) ?_ ?_ ?_
 ·intro o p hp e
  rcases o with u | r2<;>exact nomatch (hp.1.symm.trans e)
 ·rintro i_3_l2 o h
  unfold spec_l24Ok_l2 at h
  refine gs<|gs<|g0 j j (q (oMv j j)<|q (oMv j j)<|q (oLnI j j uF78 j)<|q (oBi j j j j)<|nl)<|us<|gc h j iDec (fun hc11 h=>?_) fun hc11 h=>?_
  ·refine Go.skip<|us<|gs<|Go.block<|gs<|?_
   obtain ⟨x12,hx12,h⟩:=bs h
   obtain ⟨x13,hx13,h⟩:=bs h
   obtain ⟨t_32_m4,hm15,h⟩:=bs h
   refine gd c127 j j j j (mk [(0,D 2 (W 4 e_S_Bond list_0)),(3,iv i_3_l2),(32,bv t_32_m4)] []) ?_ ?_
   ·refine t j j (oMv j j)<|t j j (oMv j j)<|?_
    refine ic hm15 (fun hc12 hm15=>?_) fun hc12 hm15=>?_
    ·refine ic hm15 (fun hc13 hm15=>?_) fun hc13 hm15=>?_
     ·obtain ⟨x22,hx22,hm15⟩:=bs hm15
      obtain ⟨x27,hx27,hm15⟩:=bs hm15
      cases hm15
      exact t j j (oIAI j hx12 sF78 j j)<|sS (dN z127 j (oCa (xs:=[.v false [.im 2 _]]) (vs:=[(false,[.im 0 _])]) (v:=.v false [.im 0 _]) (L_spec_l24One hx13) (.inl j) j kF168_251 j (ppC j pp0) j j pb0 j j j)) trivial (t j j (oUn j j j)<|t j j (oMv j j)<|tT j j j j (nF (iR.2 hc12)) (oMv j j)<|tT j j j j (nF (iR.2 hc12)) (oBi j j j j)<|tT j j j j (nF (iR.2 hc12)) (oMv j j)<|tT j j j j (iDec.2 hc13) (oMv j j)<|tT j j j j (iDec.2 hc13) (oMv j j)<|tT j j j j (iDec.2 hc13) (oBi j j j j)<|tT j j j j (iDec.2 hc13) (oIAI j hx22 sF78 j j)<|tT j j j j (iDec.2 hc13) (oFA (r':=.im 2 _) j fF209_0 j j)<|tT j j j j (iDec.2 hc13) (oLd (cs:=[.im 2 _]) j tF9 j j)<|tT j j j j (iDec.2 hc13) (oMv j j)<|tT j j j j (iDec.2 hc13) (oMv j j)<|tT j j j j (iDec.2 hc13) (oIAI j hx27 sF78 j j)<|tT j j j j (iDec.2 hc13) (oFA (r':=.im 2 _) j fF209_0 j j)<|tT j j j j (iDec.2 hc13) (oLd (cs:=[.im 2 _]) j tF9 j j)<|tT j j j j (iDec.2 hc13) (oBi j j j j)<|tT j j j j (nF (iR.2 hc12)) (oPkT j j (iDec.2 hc13) j)<|t j j (oPkF j j (nF (iR.2 hc12)) j)<|sD (by kernel_rfl))
     ·cases hm15
      exact t j j (oIAI j hx12 sF78 j j)<|sS (dN z127 j (oCa (xs:=[.v false [.im 2 _]]) (vs:=[(false,[.im 0 _])]) (v:=.v false [.im 0 _]) (L_spec_l24One hx13) (.inl j) j kF168_251 j (ppC j pp0) j j pb0 j j j)) trivial (t j j (oUn j j j)<|t j j (oMv j j)<|tT j j j j (nF (iR.2 hc12)) (oMv j j)<|tT j j j j (nF (iR.2 hc12)) (oBi j j j j)<|tT j j j j (nF (iR.2 hc12)) (oMv j j)<|tF j j j j (byF iDec hc13) j<|tF j j j j (byF iDec hc13) j<|tF j j j j (byF iDec hc13) j<|tF j j j j (byF iDec hc13) j<|tF j j j j (byF iDec hc13) j<|tF j j j j (byF iDec hc13) j<|tF j j j j (byF iDec hc13) j<|tF j j j j (byF iDec hc13) j<|tF j j j j (byF iDec hc13) j<|tF j j j j (byF iDec hc13) j<|tF j j j j (byF iDec hc13) j<|tF j j j j (byF iDec hc13) j<|tT j j j j (nF (iR.2 hc12)) (oPkF j j (byF iDec hc13) j)<|t j j (oPkF j j (nF (iR.2 hc12)) j)<|sD (by kernel_rfl))
    ·cases hm15
     exact t j j (oIAI j hx12 sF78 j j)<|sS (dN z127 j (oCa (xs:=[.v false [.im 2 _]]) (vs:=[(false,[.im 0 _])]) (v:=.v false [.im 0 _]) (L_spec_l24One hx13) (.inl j) j kF168_251 j (ppC j pp0) j j pb0 j j j)) trivial (t j j (oUn j j j)<|t j j (oMv j j)<|tF j j j j (nT (byF iR hc12)) j<|tF j j j j (nT (byF iR hc12)) j<|tF j j j j (nT (byF iR hc12)) j<|sT j (dU j j j j)<|sT j (dU j j j j)<|sT j (dU j j j j)<|sT j (dU j j j j)<|sT j (dU j j j j)<|sT j (dU j j j j)<|sT j (dU j j j j)<|sT j (dU j j j j)<|sT j (dU j j j j)<|sT j (dU j j j j)<|sT j (dU j j j j)<|sT j (dU j j j j)<|tF j j j j (nT (byF iR hc12)) j<|t j j (oPkT j j (nT (byF iR hc12)) j)<|sD (by kernel_rfl))
   ·refine us<|gc h j iR (fun hc14 h=>?_) fun hc14 h=>?_
    ·refine gs<|g0 j j (q (oAsI j j)<|nl)<|us<|Go.ret (Unw.ret ?_)
     cases h
     exact ⟨j,(fo rF127 j)⟩
    ·refine Go.skip<|Unw.blk<|us<|g0 j j (q (oMv j j)<|q (oBi j j j j)<|q (oAsI j j)<|nl)<|Unw.nil<|?_
     cases h
     exact ⟨j,(by kernel_rfl)⟩
  ·refine Go.exit<|ux<|Unw.nil<|?_
   cases h
   exact ⟨j,(by kernel_rfl)⟩
 ·rintro ⟨e,st⟩ hp
  rcases o with u | r2
  ·dsimp only at h
   obtain ⟨he,hst⟩:=hp
   obtain rfl:e= .exit 0:=he
   refine Unw.blkx<|us<|gs<|g2 c127 j j hst (q (oMv j j)<|q (oLnI j j uF78 j)<|q (oBi j j j j)<|q (oAsI j j)<|nl)<|us<|Go.ret (Unw.ret ?_)
   cases h
   exact fr rF127 j
  ·dsimp only at h
   obtain ⟨he,hfin⟩:=hp
   obtain rfl:e= .ret:=he
   cases h
   exact Unw.ret (Fin_ret hfin)
theorem L_spec_l22One {c_0:S_Coat} {r:Bool} (h:spec_l22One c_0=some r):FX 169 [.im 2 false [.cp (u_S_Coat c_0) 0]] (B0 [(false,[.im 0 (V r)])]):=by
 unfold spec_l22One at h
 refine gn 33 Tryz.func169 rfl ?_
 refine gs<|g0 j j (q (oAsI j j)<|nl)<|us<|gs<|?_
 obtain ⟨x7,hx7,h⟩:=bs h
 obtain ⟨t_2_m1,hm4,h⟩:=bs h
 refine gd c169 j j j j (mk [(2,bv t_2_m1)] []) ?_ ?_
 ·refine t j j (oMv j j)<|t j j (oNl j j j)<|t j j (oFA (r':=.im 2 _) j fF211_0 j j)<|?_
  refine ic hm4 (fun hc1 hm4=>?_) fun hc1 hm4=>?_
  ·obtain ⟨x13,hx13,hm4⟩:=bs hm4
   refine ic hm4 (fun hc2 hm4=>?_) fun hc2 hm4=>?_
   ·obtain ⟨x20,hx20,hm4⟩:=bs hm4
    refine ic hm4 (fun hc3 hm4=>?_) fun hc3 hm4=>?_
    ·obtain ⟨x31,hx31,hm4⟩:=bs hm4
     cases hm4
     exact t j j (oLd (cs:=[.im 2 _]) j tF9 j j)<|sS (dN z169 j (oCa (xs:=[.v false [.im 2 _]]) (vs:=[(false,[.im 0 _])]) (v:=.v false [.im 0 _]) (L_spec_l01Name hx7) (.inl j) j kF156_9 j (ppC j pp0) j j pb0 j j j)) trivial (t j j (oMv j j)<|tT j j j j (iR.2 hc1) (oMv j j)<|tT j j j j (iR.2 hc1) (oNl j j j)<|tT j j j j (iR.2 hc1) (oFA (r':=.im 2 _) j fF211_1 j j)<|tT j j j j (iR.2 hc1) (oLd (cs:=[.im 2 _]) j tF2 j j)<|sS (dT z169 j j j (iR.2 hc1) (oCa (xs:=[.v false [.im 2 _],.v false [.im 0 _],.v false [.im 0 _]]) (vs:=[(false,[.im 0 _])]) (v:=.v false [.im 0 _]) (L_spec_l00In hx13) (.inl j) j kF108_2_2_2 j (ppC j (ppC j (ppC j pp0))) j j pb0 j j j)) trivial (t j j (oPkT j j (iR.2 hc1) j)<|t j j (oMv j j)<|tT j j j j (iR.2 hc2) (oMv j j)<|tT j j j j (iR.2 hc2) (oNl j j j)<|tT j j j j (iR.2 hc2) (oFA (r':=.im 2 _) j fF211_2 j j)<|tT j j j j (iR.2 hc2) (oLd (cs:=[.im 2 _]) j tF2 j j)<|sS (dT z169 j j j (iR.2 hc2) (oCa (xs:=[.v false [.im 2 _],.v false [.im 0 _],.v false [.im 0 _]]) (vs:=[(false,[.im 0 _])]) (v:=.v false [.im 0 _]) (L_spec_l00In hx20) (.inl j) j kF108_2_2_2 j (ppC j (ppC j (ppC j pp0))) j j pb0 j j j)) trivial (t j j (oPkT j j (iR.2 hc2) j)<|t j j (oMv j j)<|tT j j j j (iR.2 hc3) (oMv j j)<|tT j j j j (iR.2 hc3) (oNl j j j)<|tT j j j j (iR.2 hc3) (oFA (r':=.im 2 _) j fF211_3 j j)<|tT j j j j (iR.2 hc3) (oLd (cs:=[.im 2 _]) j tF2 j j)<|tT j j j j (iR.2 hc3) (oMv j j)<|tT j j j j (iR.2 hc3) (oNl j j j)<|tT j j j j (iR.2 hc3) (oFA (r':=.im 2 _) j fF211_2 j j)<|tT j j j j (iR.2 hc3) (oLd (cs:=[.im 2 _]) j tF2 j j)<|sS (dT z169 j j j (iR.2 hc3) (oCa (xs:=[.v false [.im 2 _],.v false [.im 2 _],.v false [.im 0 _]]) (vs:=[(false,[.im 0 _])]) (v:=.v false [.im 0 _]) (L_spec_l00In hx31) (.inl j) j kF108_2_2_2 j (ppC j (ppC j (ppC j pp0))) j j pb0 j j j)) trivial (t j j (oPkT j j (iR.2 hc3) j)<|sS (dN z169 j (oAsI j j)) trivial (sD (by kernel_rfl))))))
    ·cases hm4
     exact t j j (oLd (cs:=[.im 2 _]) j tF9 j j)<|sS (dN z169 j (oCa (xs:=[.v false [.im 2 _]]) (vs:=[(false,[.im 0 _])]) (v:=.v false [.im 0 _]) (L_spec_l01Name hx7) (.inl j) j kF156_9 j (ppC j pp0) j j pb0 j j j)) trivial (t j j (oMv j j)<|tT j j j j (iR.2 hc1) (oMv j j)<|tT j j j j (iR.2 hc1) (oNl j j j)<|tT j j j j (iR.2 hc1) (oFA (r':=.im 2 _) j fF211_1 j j)<|tT j j j j (iR.2 hc1) (oLd (cs:=[.im 2 _]) j tF2 j j)<|sS (dT z169 j j j (iR.2 hc1) (oCa (xs:=[.v false [.im 2 _],.v false [.im 0 _],.v false [.im 0 _]]) (vs:=[(false,[.im 0 _])]) (v:=.v false [.im 0 _]) (L_spec_l00In hx13) (.inl j) j kF108_2_2_2 j (ppC j (ppC j (ppC j pp0))) j j pb0 j j j)) trivial (t j j (oPkT j j (iR.2 hc1) j)<|t j j (oMv j j)<|tT j j j j (iR.2 hc2) (oMv j j)<|tT j j j j (iR.2 hc2) (oNl j j j)<|tT j j j j (iR.2 hc2) (oFA (r':=.im 2 _) j fF211_2 j j)<|tT j j j j (iR.2 hc2) (oLd (cs:=[.im 2 _]) j tF2 j j)<|sS (dT z169 j j j (iR.2 hc2) (oCa (xs:=[.v false [.im 2 _],.v false [.im 0 _],.v false [.im 0 _]]) (vs:=[(false,[.im 0 _])]) (v:=.v false [.im 0 _]) (L_spec_l00In hx20) (.inl j) j kF108_2_2_2 j (ppC j (ppC j (ppC j pp0))) j j pb0 j j j)) trivial (t j j (oPkT j j (iR.2 hc2) j)<|t j j (oMv j j)<|tF j j j j (byF iR hc3) j<|tF j j j j (byF iR hc3) j<|tF j j j j (byF iR hc3) j<|tF j j j j (byF iR hc3) j<|tF j j j j (byF iR hc3) j<|tF j j j j (byF iR hc3) j<|tF j j j j (byF iR hc3) j<|tF j j j j (byF iR hc3) j<|sS (dF j j j (byF iR hc3) j) trivial (t j j (oPkF j j (byF iR hc3) j)<|sS (dN z169 j (oAsI j j)) trivial (sD (by kernel_rfl))))))
   ·cases hm4
    exact t j j (oLd (cs:=[.im 2 _]) j tF9 j j)<|sS (dN z169 j (oCa (xs:=[.v false [.im 2 _]]) (vs:=[(false,[.im 0 _])]) (v:=.v false [.im 0 _]) (L_spec_l01Name hx7) (.inl j) j kF156_9 j (ppC j pp0) j j pb0 j j j)) trivial (t j j (oMv j j)<|tT j j j j (iR.2 hc1) (oMv j j)<|tT j j j j (iR.2 hc1) (oNl j j j)<|tT j j j j (iR.2 hc1) (oFA (r':=.im 2 _) j fF211_1 j j)<|tT j j j j (iR.2 hc1) (oLd (cs:=[.im 2 _]) j tF2 j j)<|sS (dT z169 j j j (iR.2 hc1) (oCa (xs:=[.v false [.im 2 _],.v false [.im 0 _],.v false [.im 0 _]]) (vs:=[(false,[.im 0 _])]) (v:=.v false [.im 0 _]) (L_spec_l00In hx13) (.inl j) j kF108_2_2_2 j (ppC j (ppC j (ppC j pp0))) j j pb0 j j j)) trivial (t j j (oPkT j j (iR.2 hc1) j)<|t j j (oMv j j)<|tF j j j j (byF iR hc2) j<|tF j j j j (byF iR hc2) j<|tF j j j j (byF iR hc2) j<|tF j j j j (byF iR hc2) j<|sS (dF j j j (byF iR hc2) j) trivial (t j j (oPkF j j (byF iR hc2) j)<|t j j (oMv j j)<|tF j j j j j j<|tF j j j j j j<|tF j j j j j j<|tF j j j j j j<|tF j j j j j j<|tF j j j j j j<|tF j j j j j j<|tF j j j j j j<|sS (dF j j j j j) trivial (t j j (oPkF j j j j)<|sS (dN z169 j (oAsI j j)) trivial (sD (by kernel_rfl))))))
  ·cases hm4
   exact t j j (oLd (cs:=[.im 2 _]) j tF9 j j)<|sS (dN z169 j (oCa (xs:=[.v false [.im 2 _]]) (vs:=[(false,[.im 0 _])]) (v:=.v false [.im 0 _]) (L_spec_l01Name hx7) (.inl j) j kF156_9 j (ppC j pp0) j j pb0 j j j)) trivial (t j j (oMv j j)<|tF j j j j (byF iR hc1) j<|tF j j j j (byF iR hc1) j<|tF j j j j (byF iR hc1) j<|tF j j j j (byF iR hc1) j<|sS (dF j j j (byF iR hc1) j) trivial (t j j (oPkF j j (byF iR hc1) j)<|t j j (oMv j j)<|tF j j j j j j<|tF j j j j j j<|tF j j j j j j<|tF j j j j j j<|sS (dF j j j j j) trivial (t j j (oPkF j j j j)<|t j j (oMv j j)<|tF j j j j j j<|tF j j j j j j<|tF j j j j j j<|tF j j j j j j<|tF j j j j j j<|tF j j j j j j<|tF j j j j j j<|tF j j j j j j<|sS (dF j j j j j) trivial (t j j (oPkF j j j j)<|sS (dN z169 j (oAsI j j)) trivial (sD (by kernel_rfl))))))
 ·refine us<|Go.ret (Unw.ret ?_)
  cases h
  exact fr rF169 j
theorem L_spec_l22Ok {list_0:(List S_Coat)} {r:Bool} (h:spec_l22Ok list_0=some r):FX 128 [.im 2 false [W 4 e_S_Coat list_0]] (B0 [(false,[.im 0 (V r)])]):=by
 unfold spec_l22Ok at h
 refine gn 18 Tryz.func128 rfl ?_
 refine gs<|g0 j j (q (oAsI j j)<|nl)<|us<|gs<|gs<|g0 j j (q (oAsI j j)<|nl)<|us<|Go.block<|?_
 obtain ⟨o,hl,h⟩:=bs h
 refine gl c128 j _ (fun (i_3_l2:Int)=>mk [(0,D 2 (W 4 e_S_Coat list_0)),(3,iv i_3_l2)] []) (fun (o:(Unit ⊕ Bool)) (p:Ex×St)=>match o with | (.inl _)=>p.1= .exit 0∧p.2.norm ([0],[])=mk [(0,D 2 (W 4 e_S_Coat list_0))] [] | (.inr r2)=>p.1= .ret∧fin Tryz.prog cfg 128 Tryz.f128 [.im 2 false [W 4 e_S_Coat list_0]] p.2=some (B0 [(false,[.im 0 (V r2)])])) hl (by kernel_rfl) ?_ ?_ ?_
 ·intro o p hp e
  rcases o with u | r2<;>exact nomatch (hp.1.symm.trans e)
 ·rintro i_3_l2 o h
  unfold spec_l22Ok_l2 at h
  refine gs<|gs<|g0 j j (q (oMv j j)<|q (oMv j j)<|q (oLnI j j uF79 j)<|q (oBi j j j j)<|nl)<|us<|gc h j iDec (fun hc5 h=>?_) fun hc5 h=>?_
  ·refine Go.skip<|us<|gs<|Go.block<|gs<|?_
   obtain ⟨x12,hx12,h⟩:=bs h
   obtain ⟨x13,hx13,h⟩:=bs h
   refine g0 j j (q (oMv j j)<|q (oMv j j)<|q (oIAI j hx12 sF79 j j)<|q (oCa (xs:=[.v false [.im 2 _]]) (vs:=[(false,[.im 0 _])]) (v:=.v false [.im 0 _]) (L_spec_l22One hx13) (.inl j) j kF169_253 j (ppC j pp0) j j pb0 j j j)<|q (oUn j j j)<|nl)<|us<|?_
   by_cases hc6:x13=true
   ·rw [if_pos hc6] at h
    refine gF j (nF (iR.2 hc6))<|Go.skip<|Unw.blk<|us<|g0 j j (q (oMv j j)<|q (oBi j j j j)<|q (oAsI j j)<|nl)<|Unw.nil<|?_
    cases h
    exact ⟨j,(by kernel_rfl)⟩
   ·rw [if_neg hc6] at h
    refine gT j (nT (byF iR hc6))<|gs<|g0 j j (q (oAsI j j)<|nl)<|us<|Go.ret (Unw.ret ?_)
    cases h
    exact ⟨j,(fo rF128 j)⟩
  ·refine Go.exit<|ux<|Unw.nil<|?_
   cases h
   exact ⟨j,(by kernel_rfl)⟩
 ·rintro ⟨e,st⟩ hp
  rcases o with u | r2
  ·dsimp only at h
   obtain ⟨he,hst⟩:=hp
   obtain rfl:e= .exit 0:=he
   refine Unw.blkx<|us<|gs<|g2 c128 j j hst (q (oMv j j)<|q (oLnI j j uF79 j)<|q (oBi j j j j)<|q (oAsI j j)<|nl)<|us<|Go.ret (Unw.ret ?_)
   cases h
   exact fr rF128 j
  ·dsimp only at h
   obtain ⟨he,hfin⟩:=hp
   obtain rfl:e= .ret:=he
   cases h
   exact Unw.ret (Fin_ret hfin)
theorem L_spec_l28Ok {r_0:S_Rates} {r:Bool} (h:spec_l28Ok r_0=some r):FX 129 [.im 2 false [.cp (u_S_Rates r_0) 0]] (B0 [(false,[.im 0 (V r)])]):=by
 unfold spec_l28Ok at h
 refine gn 36 Tryz.func129 rfl ?_
 refine gs<|g0 j j (q (oAsI j j)<|nl)<|us<|gs<|?_
 obtain ⟨x7,hx7,h⟩:=bs h
 obtain ⟨t_2_m1,hm5,h⟩:=bs h
 refine gX c129 j j j (mk [(2,bv t_2_m1)] []) ?_ ?_
 ·refine xq (oMv j j)<|xq (oNl j j j)<|xq (oFA (r':=.im 2 _) j fF80_0 j j)<|xq (oLd (cs:=[.im 2 _]) j tF2 j j)<|xq (oCa (xs:=[.v false [.im 2 _],.v false [.im 0 _],.v false [.im 0 _]]) (vs:=[(false,[.im 0 _])]) (v:=.v false [.im 0 _]) (L_spec_l00In hx7) (.inl j) j kF108_2_2_2 j (ppC j (ppC j (ppC j pp0))) j j pb0 j j j)<|xq (oMv j j)<|?_
  refine ic hm5 (fun hc1 hm5=>?_) fun hc1 hm5=>?_
  ·obtain ⟨x13,hx13,hm5⟩:=bs hm5
   refine xqT j j (iR.2 hc1) (oMv j j)<|xqT j j (iR.2 hc1) (oNl j j j)<|xqT j j (iR.2 hc1) (oFA (r':=.im 2 _) j fF80_1 j j)<|xqT j j (iR.2 hc1) (oLd (cs:=[.im 2 _]) j tF2 j j)<|xqT j j (iR.2 hc1) (oCa (xs:=[.v false [.im 2 _],.v false [.im 0 _],.v false [.im 0 _]]) (vs:=[(false,[.im 0 _])]) (v:=.v false [.im 0 _]) (L_spec_l00In hx13) (.inl j) j kF108_2_2_2 j (ppC j (ppC j (ppC j pp0))) j j pb0 j j j)<|xq (oPkT j j (iR.2 hc1) j)<|xq (oMv j j)<|?_
   refine ic hm5 (fun hc2 hm5=>?_) fun hc2 hm5=>?_
   ·obtain ⟨x20,hx20,hm5⟩:=bs hm5
    refine xqT j j (iR.2 hc2) (oMv j j)<|xqT j j (iR.2 hc2) (oNl j j j)<|xqT j j (iR.2 hc2) (oFA (r':=.im 2 _) j fF80_2 j j)<|xqT j j (iR.2 hc2) (oLd (cs:=[.im 2 _]) j tF2 j j)<|xqT j j (iR.2 hc2) (oCa (xs:=[.v false [.im 2 _],.v false [.im 0 _],.v false [.im 0 _]]) (vs:=[(false,[.im 0 _])]) (v:=.v false [.im 0 _]) (L_spec_l00In hx20) (.inl j) j kF108_2_2_2 j (ppC j (ppC j (ppC j pp0))) j j pb0 j j j)<|xq (oPkT j j (iR.2 hc2) j)<|xq (oMv j j)<|?_
    refine ic hm5 (fun hc3 hm5=>?_) fun hc3 hm5=>?_
    ·obtain ⟨x27,hx27,hm5⟩:=bs hm5
     refine xqT j j (iR.2 hc3) (oMv j j)<|xqT j j (iR.2 hc3) (oNl j j j)<|xqT j j (iR.2 hc3) (oFA (r':=.im 2 _) j fF80_3 j j)<|xqT j j (iR.2 hc3) (oLd (cs:=[.im 2 _]) j tF2 j j)<|xqT j j (iR.2 hc3) (oCa (xs:=[.v false [.im 2 _],.v false [.im 0 _],.v false [.im 0 _]]) (vs:=[(false,[.im 0 _])]) (v:=.v false [.im 0 _]) (L_spec_l00In hx27) (.inl j) j kF108_2_2_2 j (ppC j (ppC j (ppC j pp0))) j j pb0 j j j)<|xq (oPkT j j (iR.2 hc3) j)<|xq (oMv j j)<|?_
     refine ic hm5 (fun hc4 hm5=>?_) fun hc4 hm5=>?_
     ·obtain ⟨x34,hx34,hm5⟩:=bs hm5
      cases hm5
      exact xqT j j (iR.2 hc4) (oMv j j)<|xqT j j (iR.2 hc4) (oNl j j j)<|xqT j j (iR.2 hc4) (oFA (r':=.im 2 _) j fF80_4 j j)<|xqT j j (iR.2 hc4) (oLd (cs:=[.im 2 _]) j tF2 j j)<|xqT j j (iR.2 hc4) (oCa (xs:=[.v false [.im 2 _],.v false [.im 0 _],.v false [.im 0 _]]) (vs:=[(false,[.im 0 _])]) (v:=.v false [.im 0 _]) (L_spec_l00In hx34) (.inl j) j kF108_2_2_2 j (ppC j (ppC j (ppC j pp0))) j j pb0 j j j)<|xq (oPkT j j (iR.2 hc4) j)<|xq (oAsI j j)<|xn
     ·cases hm5
      exact xsgF j j (byF iR hc4) j<|xsgF j j (byF iR hc4) j<|xsgF j j (byF iR hc4) j<|xsgF j j (byF iR hc4) j<|xsgF j j (byF iR hc4) j<|xq (oPkF j j (byF iR hc4) j)<|xq (oAsI j j)<|xn
    ·cases hm5
     exact xsgF j j (byF iR hc3) j<|xsgF j j (byF iR hc3) j<|xsgF j j (byF iR hc3) j<|xsgF j j (byF iR hc3) j<|xsgF j j (byF iR hc3) j<|xq (oPkF j j (byF iR hc3) j)<|xq (oMv j j)<|xsgF j j j j<|xsgF j j j j<|xsgF j j j j<|xsgF j j j j<|xsgF j j j j<|xq (oPkF j j j j)<|xq (oAsI j j)<|xn
   ·cases hm5
    exact xsgF j j (byF iR hc2) j<|xsgF j j (byF iR hc2) j<|xsgF j j (byF iR hc2) j<|xsgF j j (byF iR hc2) j<|xsgF j j (byF iR hc2) j<|xq (oPkF j j (byF iR hc2) j)<|xq (oMv j j)<|xsgF j j j j<|xsgF j j j j<|xsgF j j j j<|xsgF j j j j<|xsgF j j j j<|xq (oPkF j j j j)<|xq (oMv j j)<|xsgF j j j j<|xsgF j j j j<|xsgF j j j j<|xsgF j j j j<|xsgF j j j j<|xq (oPkF j j j j)<|xq (oAsI j j)<|xn
  ·cases hm5
   exact xsgF j j (byF iR hc1) j<|xsgF j j (byF iR hc1) j<|xsgF j j (byF iR hc1) j<|xsgF j j (byF iR hc1) j<|xsgF j j (byF iR hc1) j<|xq (oPkF j j (byF iR hc1) j)<|xq (oMv j j)<|xsgF j j j j<|xsgF j j j j<|xsgF j j j j<|xsgF j j j j<|xsgF j j j j<|xq (oPkF j j j j)<|xq (oMv j j)<|xsgF j j j j<|xsgF j j j j<|xsgF j j j j<|xsgF j j j j<|xsgF j j j j<|xq (oPkF j j j j)<|xq (oMv j j)<|xsgF j j j j<|xsgF j j j j<|xsgF j j j j<|xsgF j j j j<|xsgF j j j j<|xq (oPkF j j j j)<|xq (oAsI j j)<|xn
 ·refine us<|Go.ret (Unw.ret ?_)
  cases h
  exact fr rF129 j
theorem L_spec_l32Ok {d_0:S_Desk} {r:Bool} (h:spec_l32Ok d_0=some r):FX 76 [.im 2 false [.cp (u_S_Desk d_0) 0]] (B0 [(false,[.im 0 (V r)])]):=by
 unfold spec_l32Ok at h
 refine gn 27 Tryz.func76 rfl ?_
 refine gs<|g0 j j (q (oAsI j j)<|nl)<|us<|gs<|?_
 obtain ⟨x6,hx6,h⟩:=bs h
 obtain ⟨t_2_m1,hm4,h⟩:=bs h
 refine gX c76 j j j (mk [(2,bv t_2_m1)] []) ?_ ?_
 ·refine xq (oMv j j)<|xq (oNl j j j)<|xq (oFA (r':=.im 2 _) j fF82_0 j j)<|xq (oCa (xs:=[.v false [.im 2 _]]) (vs:=[(false,[.im 0 _])]) (v:=.v false [.im 0 _]) (L_spec_l31Ok hx6) (.inl j) j kF39_90 j (ppC j pp0) j j pb0 j j j)<|xq (oMv j j)<|?_
  refine ic hm4 (fun hc1 hm4=>?_) fun hc1 hm4=>?_
  ·obtain ⟨x12,hx12,hm4⟩:=bs hm4
   refine xqT j j (iR.2 hc1) (oMv j j)<|xqT j j (iR.2 hc1) (oNl j j j)<|xqT j j (iR.2 hc1) (oFA (r':=.im 2 _) j fF82_1 j j)<|xqT j j (iR.2 hc1) (oLd (cs:=[.im 2 _]) j tF78 j j)<|xqT j j (iR.2 hc1) (oCa (xs:=[.v false [.im 2 _]]) (vs:=[(false,[.im 0 _])]) (v:=.v false [.im 0 _]) (L_spec_l24Ok hx12) (.inl j) j kF127_78 j (ppC j pp0) j j pb0 j j j)<|xq (oPkT j j (iR.2 hc1) j)<|xq (oMv j j)<|?_
   refine ic hm4 (fun hc2 hm4=>?_) fun hc2 hm4=>?_
   ·obtain ⟨x19,hx19,hm4⟩:=bs hm4
    refine xqT j j (iR.2 hc2) (oMv j j)<|xqT j j (iR.2 hc2) (oNl j j j)<|xqT j j (iR.2 hc2) (oFA (r':=.im 2 _) j fF82_2 j j)<|xqT j j (iR.2 hc2) (oLd (cs:=[.im 2 _]) j tF79 j j)<|xqT j j (iR.2 hc2) (oCa (xs:=[.v false [.im 2 _]]) (vs:=[(false,[.im 0 _])]) (v:=.v false [.im 0 _]) (L_spec_l22Ok hx19) (.inl j) j kF128_79 j (ppC j pp0) j j pb0 j j j)<|xq (oPkT j j (iR.2 hc2) j)<|xq (oMv j j)<|?_
    refine ic hm4 (fun hc3 hm4=>?_) fun hc3 hm4=>?_
    ·obtain ⟨x25,hx25,hm4⟩:=bs hm4
     cases hm4
     exact xqT j j (iR.2 hc3) (oMv j j)<|xqT j j (iR.2 hc3) (oNl j j j)<|xqT j j (iR.2 hc3) (oFA (r':=.im 2 _) j fF82_3 j j)<|xqT j j (iR.2 hc3) (oCa (xs:=[.v false [.im 2 _]]) (vs:=[(false,[.im 0 _])]) (v:=.v false [.im 0 _]) (L_spec_l28Ok hx25) (.inl j) j kF129_208 j (ppC j pp0) j j pb0 j j j)<|xq (oPkT j j (iR.2 hc3) j)<|xq (oAsI j j)<|xn
    ·cases hm4
     exact xsgF j j (byF iR hc3) j<|xsgF j j (byF iR hc3) j<|xsgF j j (byF iR hc3) j<|xsgF j j (byF iR hc3) j<|xq (oPkF j j (byF iR hc3) j)<|xq (oAsI j j)<|xn
   ·cases hm4
    exact xsgF j j (byF iR hc2) j<|xsgF j j (byF iR hc2) j<|xsgF j j (byF iR hc2) j<|xsgF j j (byF iR hc2) j<|xsgF j j (byF iR hc2) j<|xq (oPkF j j (byF iR hc2) j)<|xq (oMv j j)<|xsgF j j j j<|xsgF j j j j<|xsgF j j j j<|xsgF j j j j<|xq (oPkF j j j j)<|xq (oAsI j j)<|xn
  ·cases hm4
   exact xsgF j j (byF iR hc1) j<|xsgF j j (byF iR hc1) j<|xsgF j j (byF iR hc1) j<|xsgF j j (byF iR hc1) j<|xsgF j j (byF iR hc1) j<|xq (oPkF j j (byF iR hc1) j)<|xq (oMv j j)<|xsgF j j j j<|xsgF j j j j<|xsgF j j j j<|xsgF j j j j<|xsgF j j j j<|xq (oPkF j j j j)<|xq (oMv j j)<|xsgF j j j j<|xsgF j j j j<|xsgF j j j j<|xsgF j j j j<|xq (oPkF j j j j)<|xq (oAsI j j)<|xn
 ·refine us<|Go.ret (Unw.ret ?_)
  cases h
  exact fr rF76 j
theorem L_spec_ValidDesk {d_0:S_Desk} {r:Bool} (h:spec_ValidDesk d_0=some r):FX 31 [.im 2 true (u_S_Desk d_0)] (B0 [(false,[.im 0 (V r)])]):=by
 unfold spec_ValidDesk at h
 refine gn 4 Tryz.func31 rfl ?_
 refine gs<|g0 j j (q (oBx j tF82 j (tkI (tkI (tkI (tkI (tkI (tkI (tkI (tkI (tkI (tkI (tkI (tkI (tkI (tkI (tkI (tkI (tkI (tkI (tkI (tkI (tkI (tkI (tkI (tkI tk0)))))))))))))))))))))))))<|q (oAsI j j)<|nl)<|us<|gs<|?_
 obtain ⟨x3,hx3,h⟩:=bs h
 refine g1 j j (mk [(1,M 1)] [(1,Oa (G 2 (u_S_Desk d_0)))]) (q (oCa (xs:=[.v false [.mp 1 0 0]]) (vs:=[(false,[.im 0 _])]) (v:=.v false [.im 0 _]) (L_spec_l32Ok hx3) (.inl j) j kF76_140 j (ppC j pp0) j j pb0 j j j)<|q (oAsI j j)<|nl)<|us<|Go.ret (Unw.ret ?_)
 cases h
 exact fr rF31 j
theorem L_impl_within {n_0:Int} {low_1:Int} {high_2:Int} {r:Bool} (h:impl_within n_0 low_1 high_2=some r):FX 49 [.im 2 false [I n_0],.im 2 false [I low_1],.im 2 false [I high_2]] (B0 [(false,[.im 0 (V r)])]):=by
 unfold impl_within at h
 refine gn 15 Tryz.func49 rfl ?_
 refine gs<|g0 j j (q (oAsI j j)<|nl)<|us<|gs<|gX c49 j j j (mk [(6,bv ((decide (n_0≥low_1))&&(decide (n_0≤high_2))))] []) ?_ ?_
 ·refine xq (oMv j j)<|xq (oMv j j)<|xq (oBi j j j j)<|xq (oMv j j)<|?_
  by_cases hc1:n_0≥low_1
  ·exact xqT rfl rfl (iDec.2 hc1) (oMv rfl rfl)<|xqT rfl rfl (iDec.2 hc1) (oMv rfl rfl)<|xqT rfl rfl (iDec.2 hc1) (oBi rfl rfl rfl rfl)<|xq (oPkT rfl rfl (iDec.2 hc1) rfl)<|xq (oAsI rfl rfl)<|xn (Eq.trans (b:=(fun t_6_m1:Bool=>mk [(6,bv t_6_m1)] []) (decide (n_0≤high_2))) (by kernel_rfl) (congrArg (fun t_6_m1:Bool=>mk [(6,bv t_6_m1)] []) (by first | rfl | (simp [(iDec.2 hc1)];done) | (simp [(iDec.2 hc1)];omega))))
  ·exact xsgF rfl rfl (byF iDec hc1) rfl<|xsgF rfl rfl (byF iDec hc1) rfl<|xsgF rfl rfl (byF iDec hc1) rfl<|xq (oPkF rfl rfl (byF iDec hc1) rfl)<|xq (oAsI rfl rfl)<|xn (Eq.trans (b:=(fun t_6_m1:Bool=>mk [(6,bv t_6_m1)] []) false) (by kernel_rfl) (congrArg (fun t_6_m1:Bool=>mk [(6,bv t_6_m1)] []) (by first | rfl | (simp [(byF iDec hc1)];done) | (simp [(byF iDec hc1)];omega))))
 ·refine us<|Go.ret (Unw.ret ?_)
  cases h
  exact fr rF49 j
theorem L_slices_Index_impl_Point_impl_Point {s_0:(List S_Point)} {v_1:S_Point} {r:Int} (h:slices_Index_impl_Point_impl_Point s_0 v_1=some r):FX 174 [.im 2 false [W 2 e_S_Point s_0],.im 2 true (u_S_Point v_1)] (B0 [(false,[.im 0 (I r)])]):=by
 unfold slices_Index_impl_Point_impl_Point at h
 refine gn 19 Tryz.func174 rfl ?_
 refine gs<|g0 j j (q (oBx j tF184 j (tkI (tkI tk0)))<|q (oAsI j j)<|nl)<|us<|gs<|gs<|g0 j j (q (oMv j j)<|q (oLnI j j uF38 j)<|q (oMv j j)<|nl)<|us<|Go.block<|?_
 obtain ⟨o,hl,h⟩:=bs h
 refine gl c174 j _ (fun (t_8_l2:Int)=>mk [(0,D 2 (W 2 e_S_Point s_0)),(3,M 3),(7,iv (s_0.length:Int)),(8,iv t_8_l2)] [(3,Oa (G 0 (u_S_Point v_1)))]) (fun (o:(Unit ⊕ Int)) (p:Ex×St)=>match o with | (.inl _)=>p.1= .exit 0∧p.2.norm ([],[])=mk [] [] | (.inr r2)=>p.1= .ret∧fin Tryz.prog cfg 174 Tryz.f174 [.im 2 false [W 2 e_S_Point s_0],.im 2 true (u_S_Point v_1)] p.2=some (B0 [(false,[.im 0 (I r2)])])) hl (by kernel_rfl) ?_ ?_ ?_
 ·intro o p hp e
  rcases o with u | r2<;>exact nomatch (hp.1.symm.trans e)
 ·rintro t_8_l2 o h
  unfold slices_Index_impl_Point_impl_Point_l2 at h
  refine gs<|g0 j j (q (oBi j j j j)<|nl)<|us<|gs<|gc h j iDec (fun hc5 h=>?_) fun hc5 h=>?_
  ·refine Go.skip<|us<|gs<|Go.block<|gs<|g0 j j (q (oMv j j)<|q (oAsI j j)<|nl)<|us<|gs<|?_
   obtain ⟨x14,hx14,h⟩:=bs h
   refine gd c174 j j j j (mk [(0,D 2 (W 2 e_S_Point s_0)),(3,M 3),(5,iv t_8_l2),(7,iv (s_0.length:Int)),(8,iv t_8_l2),(16,bv ((v_1.X==x14.X)&&(v_1.Y==x14.Y)))] [(3,Oa (G 0 (u_S_Point v_1)))]) (t j j (oLd (cs:=[.im 0 _,.im 0 _]) j tF184 j j)<|t j j (oMv j j)<|t j j (oMv j j)<|t j j (oIAI j hx14 sF38 j j)<|t j j (oLd (cs:=[.im 2 _,.im 2 _]) j tF184 j j)<|t j j (oBa j (qEF184 v_1.X v_1.Y x14.X x14.Y) j j j j)<|sD (by kernel_rfl))<|us<|gc h j (iAnd iEq iEq) (fun hc6 h=>?_) fun hc6 h=>?_
   ·refine gs<|g0 j j (q (oMv j j)<|q (oAsI j j)<|nl)<|us<|Go.ret (Unw.ret ?_)
    cases h
    exact ⟨j,(fo rF174 j)⟩
   ·refine Go.skip<|Unw.blk<|us<|g0 j j (q (oBi j j j j)<|q (oMv j j)<|nl)<|Unw.nil<|?_
    cases h
    exact ⟨j,(by kernel_rfl)⟩
  ·refine Go.exit<|ux<|Unw.nil<|?_
   cases h
   exact ⟨j,(by kernel_rfl)⟩
 ·rintro ⟨e,st⟩ hp
  rcases o with u | r2
  ·dsimp only at h
   obtain ⟨he,hst⟩:=hp
   obtain rfl:e= .exit 0:=he
   refine Unw.blkx<|us<|gs<|g2 c174 j j hst (q (oAsI j j)<|nl)<|us<|Go.ret (Unw.ret ?_)
   cases h
   exact fr rF174 j
  ·dsimp only at h
   obtain ⟨he,hfin⟩:=hp
   obtain rfl:e= .ret:=he
   cases h
   exact Unw.ret (Fin_ret hfin)
theorem L_slices_Contains_impl_Point_impl_Point {s_0:(List S_Point)} {v_1:S_Point} {r:Bool} (h:slices_Contains_impl_Point_impl_Point s_0 v_1=some r):FX 143 [.im 2 false [W 2 e_S_Point s_0],.im 2 true (u_S_Point v_1)] (B0 [(false,[.im 0 (V r)])]):=by
 unfold slices_Contains_impl_Point_impl_Point at h
 refine gn 9 Tryz.func143 rfl ?_
 refine gs<|g0 j j (q (oBx j tF184 j (tkI (tkI tk0)))<|q (oAsI j j)<|nl)<|us<|gs<|?_
 obtain ⟨x7,hx7,h⟩:=bs h
 refine g0 j j (q (oMv j j)<|q (oLd (cs:=[.im 0 _,.im 0 _]) j tF184 j j)<|q (oCa (xs:=[.v false [.im 2 _],.v true [.im 0 _,.im 0 _]]) (vs:=[(false,[.im 0 _])]) (v:=.v false [.im 0 _]) (L_slices_Index_impl_Point_impl_Point hx7) (.inl j) j kF174_38_184 j (ppC j (ppC j pp0)) j j pb0 j j j)<|q (oBi j j j j)<|q (oAsI j j)<|nl)<|us<|Go.ret (Unw.ret ?_)
 cases h
 exact fr rF143 j
theorem L_impl_IsName {s_0:ByteArray} {r:Bool} (h:impl_IsName s_0=some r):FX 144 [.im 2 false [Y s_0]] (B0 [(false,[.im 0 (V r)])]):=by
 unfold impl_IsName at h
 refine gn 50 Tryz.func144 rfl ?_
 refine gs<|g0 j j (q (oAsI j j)<|nl)<|us<|gs<|gs<|?_
 obtain ⟨t_21_m1,hm26,h⟩:=bs h
 refine gX c144 j j j (mk [(0,sv s_0),(21,bv t_21_m1)] []) ?_ ?_
 ·refine xq (oMv j j)<|xq (oLnS j j uF9 j)<|xq (oBi j j j j)<|xq (oMv j j)<|?_
  refine ic hm26 (fun hc1 hm26=>?_) fun hc1 hm26=>?_
  ·cases hm26
   exact xsgF j j (iDec.2 hc1) j<|xsgF j j (iDec.2 hc1) j<|xsgF j j (iDec.2 hc1) j<|xq (oPkT j j (iDec.2 hc1) j)<|xq (oMv j j)<|xsgF j j j j<|xsgF j j j j<|xsgF j j j j<|xq (oPkT j j j j)<|xq (oMv j j)<|xsgF j j j j<|xsgF j j j j<|xsgF j j j j<|xq (oPkT j j j j)<|xn
  ·refine xqT j j (byF iDec hc1) (oMv j j)<|xqT j j (byF iDec hc1) (oLnS j j uF9 j)<|xqT j j (byF iDec hc1) (oBi j j j j)<|xq (oPkF j j (byF iDec hc1) j)<|xq (oMv j j)<|?_
   refine ic hm26 (fun hc2 hm26=>?_) fun hc2 hm26=>?_
   ·cases hm26
    exact xsgF j j (iDec.2 hc2) j<|xsgF j j (iDec.2 hc2) j<|xsgF j j (iDec.2 hc2) j<|xq (oPkT j j (iDec.2 hc2) j)<|xq (oMv j j)<|xsgF j j j j<|xsgF j j j j<|xsgF j j j j<|xq (oPkT j j j j)<|xn
   ·obtain ⟨x14,hx14,hm26⟩:=bs hm26
    refine xqT j j (byF iDec hc2) (oMv j j)<|xqT j j (byF iDec hc2) (oIx j hx14 uF9 j j)<|xqT j j (byF iDec hc2) (oBi j j j j)<|xq (oPkF j j (byF iDec hc2) j)<|xq (oMv j j)<|?_
    refine ic hm26 (fun hc3 hm26=>?_) fun hc3 hm26=>?_
    ·cases hm26
     exact xsgF j j (iDec.2 hc3) j<|xsgF j j (iDec.2 hc3) j<|xsgF j j (iDec.2 hc3) j<|xq (oPkT j j (iDec.2 hc3) j)<|xn
    ·obtain ⟨x19,hx19,hm26⟩:=bs hm26
     cases hm26
     exact xqT j j (byF iDec hc3) (oMv j j)<|xqT j j (byF iDec hc3) (oIx j hx19 uF9 j j)<|xqT j j (byF iDec hc3) (oBi j j j j)<|xq (oPkF j j (byF iDec hc3) j)<|xn
 ·refine us<|gc h j iR (fun hc4 h=>?_) fun hc4 h=>?_
  ·refine gs<|g0 j j (q (oAsI j j)<|nl)<|us<|Go.ret (Unw.ret ?_)
   cases h
   exact fr rF144 j
  ·refine Go.skip<|us<|gs<|gs<|g0 j j (q (oAsI j j)<|nl)<|us<|Go.block<|?_
   obtain ⟨o,hl,h⟩:=bs h
   refine gl c144 j _ (fun (i_3_l4:Int)=>mk [(0,sv s_0),(3,iv i_3_l4)] []) (fun (o:(Unit ⊕ Bool)) (p:Ex×St)=>match o with | (.inl _)=>p.1= .exit 0∧p.2.norm ([],[])=mk [] [] | (.inr r2)=>p.1= .ret∧fin Tryz.prog cfg 144 Tryz.f144 [.im 2 false [Y s_0]] p.2=some (B0 [(false,[.im 0 (V r2)])])) hl (by kernel_rfl) ?_ ?_ ?_
   ·intro o p hp e
    rcases o with u | r2<;>exact nomatch (hp.1.symm.trans e)
   ·rintro i_3_l4 o h
    unfold impl_IsName_l4 at h
    refine gs<|gs<|g0 j j (q (oMv j j)<|q (oMv j j)<|q (oLnS j j uF9 j)<|q (oBi j j j j)<|nl)<|us<|gc h j iDec (fun hc19 h=>?_) fun hc19 h=>?_
    ·refine Go.skip<|us<|gs<|Go.block<|gs<|?_
     obtain ⟨x30,hx30,h⟩:=bs h
     obtain ⟨t_49_m6,hm25,h⟩:=bs h
     refine gX c144 j j j (mk [(0,sv s_0),(3,iv i_3_l4),(49,bv t_49_m6)] []) ?_ ?_
     ·refine xq (oMv j j)<|xq (oMv j j)<|xq (oIx j hx30 uF9 j j)<|xq (oBi j j j j)<|xq (oMv j j)<|?_
      refine ic hm25 (fun hc20 hm25=>?_) fun hc20 hm25=>?_
      ·obtain ⟨x41,hx41,hm25⟩:=bs hm25
       refine xsgF j j (iDec.2 hc20) j<|xsgF j j (iDec.2 hc20) j<|xsgF j j (iDec.2 hc20) j<|xsgF j j (iDec.2 hc20) j<|xq (oPkT j j (iDec.2 hc20) j)<|xq (oMv j j)<|xqT j j j (oMv j j)<|xqT j j j (oMv j j)<|xqT j j j (oIx j hx41 uF9 j j)<|xqT j j j (oBi j j j j)<|xqT j j j (oMv j j)<|?_
       refine ic hm25 (fun hc21 hm25=>?_) fun hc21 hm25=>?_
       ·cases hm25
        exact xsgF j j (iDec.2 hc21) j<|xsgF j j (iDec.2 hc21) j<|xsgF j j (iDec.2 hc21) j<|xsgF j j (iDec.2 hc21) j<|xqT j j j (oPkT j j (iDec.2 hc21) j)<|xq (oPkT j j j j)<|xn
       ·obtain ⟨x46,hx46,hm25⟩:=bs hm25
        cases hm25
        exact xqT j j (byF iDec hc21) (oMv j j)<|xqT j j (byF iDec hc21) (oMv j j)<|xqT j j (byF iDec hc21) (oIx j hx46 uF9 j j)<|xqT j j (byF iDec hc21) (oBi j j j j)<|xqT j j j (oPkF j j (byF iDec hc21) j)<|xq (oPkT j j j j)<|xn
      ·obtain ⟨x35,hx35,hm25⟩:=bs hm25
       refine xqT j j (byF iDec hc20) (oMv j j)<|xqT j j (byF iDec hc20) (oMv j j)<|xqT j j (byF iDec hc20) (oIx j hx35 uF9 j j)<|xqT j j (byF iDec hc20) (oBi j j j j)<|xq (oPkF j j (byF iDec hc20) j)<|xq (oMv j j)<|?_
       refine ic hm25 (fun hc22 hm25=>?_) fun hc22 hm25=>?_
       ·obtain ⟨x41,hx41,hm25⟩:=bs hm25
        refine xqT j j (iDec.2 hc22) (oMv j j)<|xqT j j (iDec.2 hc22) (oMv j j)<|xqT j j (iDec.2 hc22) (oIx j hx41 uF9 j j)<|xqT j j (iDec.2 hc22) (oBi j j j j)<|xqT j j (iDec.2 hc22) (oMv j j)<|?_
        refine ic hm25 (fun hc23 hm25=>?_) fun hc23 hm25=>?_
        ·cases hm25
         exact xsgF j j (iDec.2 hc23) j<|xsgF j j (iDec.2 hc23) j<|xsgF j j (iDec.2 hc23) j<|xsgF j j (iDec.2 hc23) j<|xqT j j (iDec.2 hc22) (oPkT j j (iDec.2 hc23) j)<|xq (oPkT j j (iDec.2 hc22) j)<|xn
        ·obtain ⟨x46,hx46,hm25⟩:=bs hm25
         cases hm25
         exact xqT j j (byF iDec hc23) (oMv j j)<|xqT j j (byF iDec hc23) (oMv j j)<|xqT j j (byF iDec hc23) (oIx j hx46 uF9 j j)<|xqT j j (byF iDec hc23) (oBi j j j j)<|xqT j j (iDec.2 hc22) (oPkF j j (byF iDec hc23) j)<|xq (oPkT j j (iDec.2 hc22) j)<|xn
       ·cases hm25
        exact xsgF j j (byF iDec hc22) j<|xsgF j j (byF iDec hc22) j<|xsgF j j (byF iDec hc22) j<|xsgF j j (byF iDec hc22) j<|xsgF j j (byF iDec hc22) j<|xsgU j j j<|xsgU j j j<|xsgU j j j<|xsgU j j j<|xsgF j j (byF iDec hc22) j<|xq (oPkF j j (byF iDec hc22) j)<|xn
     ·refine us<|gc h j iR (fun hc24 h=>?_) fun hc24 h=>?_
      ·refine gs<|g0 j j (q (oAsI j j)<|nl)<|us<|Go.ret (Unw.ret ?_)
       cases h
       exact ⟨j,(fo rF144 j)⟩
      ·refine Go.skip<|Unw.blk<|us<|g0 j j (q (oMv j j)<|q (oBi j j j j)<|q (oAsI j j)<|nl)<|Unw.nil<|?_
       cases h
       exact ⟨j,(by kernel_rfl)⟩
    ·refine Go.exit<|ux<|Unw.nil<|?_
     cases h
     exact ⟨j,(by kernel_rfl)⟩
   ·rintro ⟨e,st⟩ hp
    rcases o with u | r2
    ·dsimp only at h
     obtain ⟨he,hst⟩:=hp
     obtain rfl:e= .exit 0:=he
     refine Unw.blkx<|us<|gs<|g2 c144 j j hst (q (oAsI j j)<|nl)<|us<|Go.ret (Unw.ret ?_)
     cases h
     exact fr rF144 j
    ·dsimp only at h
     obtain ⟨he,hfin⟩:=hp
     obtain rfl:e= .ret:=he
     cases h
     exact Unw.ret (Fin_ret hfin)
theorem L_impl_ringPolygon {points_0:(List S_Point)} {ring_1:(List Int)} {r:((List S_Point)×Bool)} (h:impl_ringPolygon points_0 ring_1=some r):FX 145 [.im 2 false [W 2 e_S_Point points_0],.im 2 false [W 1 eI ring_1]] (B0 [(false,[.ow 0 2 (List.map e_S_Point r.1)]),(false,[.im 0 (V r.2)])]):=by
 unfold impl_ringPolygon at h
 refine gn 31 Tryz.func145 rfl ?_
 refine gs<|g0 j j (q (oAsN j j eF38)<|q (oAsI j j)<|nl)<|us<|gs<|g0 j j (q (oBS (es:=List.map e_S_Point ([]:List S_Point)) j sF38 j pt0 (flat0 j fun _=>j))<|q (oAsO j j j j j)<|nl)<|us<|gs<|gs<|g0 j j (q (oMv j j)<|q (oLnI j j uF33 j)<|q (oMv j j)<|nl)<|us<|Go.block<|?_
 obtain ⟨o,hl,h⟩:=bs h
 refine gl c145 j _ (fun (s:(Int×(List S_Point)))=>match s with | (t_12_l3,out_o6_l3)=>mk [(0,D 2 (W 2 e_S_Point points_0)),(6,H 6 0),(10,D 2 (W 1 eI ring_1)),(11,iv (ring_1.length:Int)),(12,iv t_12_l3)] [(6,Oc [Z (W 2 e_S_Point out_o6_l3)])]) (fun (o:((List S_Point) ⊕ ((List S_Point)×Bool))) (p:Ex×St)=>match o with | (.inl out_o6_e0_3)=>p.1= .exit 0∧p.2.norm ([6],[6])=mk [(6,H 6 0)] [(6,Oc [Z (W 2 e_S_Point out_o6_e0_3)])] | (.inr r2)=>p.1= .ret∧fin Tryz.prog cfg 145 Tryz.f145 [.im 2 false [W 2 e_S_Point points_0],.im 2 false [W 1 eI ring_1]] p.2=some (B0 [(false,[.ow 0 2 (List.map e_S_Point r2.1)]),(false,[.im 0 (V r2.2)])])) hl (by kernel_rfl) ?_ ?_ ?_
 ·intro o p hp e
  rcases o with out_o6_e0_3 | r2<;>exact nomatch (hp.1.symm.trans e)
 ·rintro ⟨t_12_l3,out_o6_l3⟩ o h
  unfold impl_ringPolygon_l3 at h
  dsimp only at h
  refine gs<|g0 j j (q (oBi j j j j)<|nl)<|us<|gs<|gc h j iDec (fun hc5 h=>?_) fun hc5 h=>?_
  ·refine Go.skip<|us<|gs<|Go.block<|gs<|?_
   obtain ⟨x14,hx14,h⟩:=bs h
   refine g0 j j (q (oIAI j hx14 sF33 j j)<|q (oLd (cs:=[.im 2 _]) j tF2 j j)<|q (oAsI j j)<|nl)<|us<|gs<|gs<|?_
   obtain ⟨x20,hx20,h⟩:=bs h
   refine g0 j j (q (oMv j j)<|q (oMv j j)<|q (oLnI j j uF38 j)<|q (oBi j j j j)<|q (oCa (xs:=[.v false [.im 2 _],.v false [.im 0 _],.v false [.im 0 _]]) (vs:=[(false,[.im 0 _])]) (v:=.v false [.im 0 _]) (L_impl_within hx20) (.inl j) j kF49_2_2_2 j (ppC j (ppC j (ppC j pp0))) j j pb0 j j j)<|q (oUn j j j)<|nl)<|us<|?_
   by_cases hc6:x20=true
   ·rw [if_pos hc6] at h
    refine gF j (nF (iR.2 hc6))<|Go.skip<|us<|?_
    obtain ⟨x25,hx25,h⟩:=bs h
    obtain ⟨x28,hx28,h⟩:=bs h
    refine g0 j j (q (oMv j j)<|q (oMv j j)<|q (oMv j j)<|q (oIAI j hx25 sF38 j j)<|q (oLd (cs:=[.im 2 _,.im 2 _]) j tF184 j j)<|q (oBS (es:=List.map e_S_Point ([x25]:List S_Point)) j sF38 j (ptC j (fxI (fxI fx0)) j pt0) (flat0 j fun _=>j))<|q (oApO (en:=e_S_Point) (M:=([x25]:List S_Point)) j hx28 j sF38 j j uF38 (.inl ⟨_,j⟩) j j j j (el_own j j) (flat0 j fun _=>j))<|q (oAsO j j j j j)<|nl)<|Unw.blk<|us<|g0 j j (q (oBi j j j j)<|q (oMv j j)<|nl)<|Unw.nil<|?_
    cases h
    exact ⟨j,(by kernel_rfl)⟩
   ·rw [if_neg hc6] at h
    refine gT j (nT (byF iR hc6))<|gs<|g0 j j (q (oAsN j j eF38)<|q (oAsI j j)<|nl)<|us<|Go.ret (Unw.ret ?_)
    cases h
    exact ⟨j,(fo rF145 j)⟩
  ·refine Go.exit<|ux<|Unw.nil<|?_
   cases h
   exact ⟨j,(by kernel_rfl)⟩
 ·rintro ⟨e,st⟩ hp
  rcases o with out_o6_e0_3 | r2
  ·dsimp only at h
   obtain ⟨he,hst⟩:=hp
   obtain rfl:e= .exit 0:=he
   refine Unw.blkx<|us<|gs<|g2 c145 j j hst (q (oMv j j)<|q (oAsO j j j j j)<|q (oAsI j j)<|nl)<|us<|Go.ret (Unw.ret ?_)
   cases h
   exact fr rF145 j
  ·dsimp only at h
   obtain ⟨he,hfin⟩:=hp
   obtain rfl:e= .ret:=he
   cases h
   exact Unw.ret (Fin_ret hfin)
theorem L_impl_ValidPoint {p_0:S_Point} {r:Bool} (h:impl_ValidPoint p_0=some r):FX 205 [.im 2 true (u_S_Point p_0)] (B0 [(false,[.im 0 (V r)])]):=by
 unfold impl_ValidPoint at h
 refine gn 11 Tryz.func205 rfl ?_
 refine gs<|g0 j j (q (oBx j tF184 j (tkI (tkI tk0)))<|q (oAsI j j)<|nl)<|us<|gs<|?_
 obtain ⟨x5,hx5,h⟩:=bs h
 obtain ⟨t_2_m1,hm2,h⟩:=bs h
 refine gX c205 j j j (mk [(2,bv t_2_m1)] []) ?_ ?_
 ·refine xq (oFA (r':=.mp 1 0 0) j fF184_0 j j)<|xq (oLd (cs:=[.im 0 _]) j tF2 j j)<|xq (oCa (xs:=[.v false [.im 0 _],.v false [.im 0 _],.v false [.im 0 _]]) (vs:=[(false,[.im 0 _])]) (v:=.v false [.im 0 _]) (L_impl_within hx5) (.inl j) j kF49_2_2_2 j (ppC j (ppC j (ppC j pp0))) j j pb0 j j j)<|xq (oMv j j)<|?_
  refine ic hm2 (fun hc1 hm2=>?_) fun hc1 hm2=>?_
  ·obtain ⟨x9,hx9,hm2⟩:=bs hm2
   cases hm2
   exact xqT j j (iR.2 hc1) (oFA (r':=.mp 1 0 1) j fF184_1 j j)<|xqT j j (iR.2 hc1) (oLd (cs:=[.im 0 _]) j tF2 j j)<|xqT j j (iR.2 hc1) (oCa (xs:=[.v false [.im 0 _],.v false [.im 0 _],.v false [.im 0 _]]) (vs:=[(false,[.im 0 _])]) (v:=.v false [.im 0 _]) (L_impl_within hx9) (.inl j) j kF49_2_2_2 j (ppC j (ppC j (ppC j pp0))) j j pb0 j j j)<|xq (oPkT j j (iR.2 hc1) j)<|xq (oAsI j j)<|xn
  ·cases hm2
   exact xsgF j j (byF iR hc1) j<|xsgF j j (byF iR hc1) j<|xsgF j j (byF iR hc1) j<|xq (oPkF j j (byF iR hc1) j)<|xq (oAsI j j)<|xn
 ·refine us<|Go.ret (Unw.ret ?_)
  cases h
  exact fr rF205 j
theorem L_impl_validPoints {list_0:(List S_Point)} {r:Bool} (h:impl_validPoints list_0=some r):FX 175 [.im 2 false [W 2 e_S_Point list_0]] (B0 [(false,[.im 0 (V r)])]):=by
 unfold impl_validPoints at h
 refine gn 15 Tryz.func175 rfl ?_
 refine gs<|g0 j j (q (oAsI j j)<|nl)<|us<|gs<|gs<|g0 j j (q (oMv j j)<|q (oLnI j j uF38 j)<|q (oMv j j)<|nl)<|us<|Go.block<|?_
 obtain ⟨o,hl,h⟩:=bs h
 refine gl c175 j _ (fun (t_7_l2:Int)=>mk [(5,D 2 (W 2 e_S_Point list_0)),(6,iv (list_0.length:Int)),(7,iv t_7_l2)] []) (fun (o:(Unit ⊕ Bool)) (p:Ex×St)=>match o with | (.inl _)=>p.1= .exit 0∧p.2.norm ([],[])=mk [] [] | (.inr r2)=>p.1= .ret∧fin Tryz.prog cfg 175 Tryz.f175 [.im 2 false [W 2 e_S_Point list_0]] p.2=some (B0 [(false,[.im 0 (V r2)])])) hl (by kernel_rfl) ?_ ?_ ?_
 ·intro o p hp e
  rcases o with u | r2<;>exact nomatch (hp.1.symm.trans e)
 ·rintro t_7_l2 o h
  unfold impl_validPoints_l2 at h
  refine gs<|g0 j j (q (oBi j j j j)<|nl)<|us<|gs<|gc h j iDec (fun hc5 h=>?_) fun hc5 h=>?_
  ·refine Go.skip<|us<|gs<|Go.block<|gs<|?_
   obtain ⟨x9,hx9,h⟩:=bs h
   refine g0 j j (q (oIAI j hx9 sF38 j j)<|q (oLd (cs:=[.im 2 _,.im 2 _]) j tF184 j j)<|q (oAl j tF184 (tkI (tkI tk0)))<|q (oSt tF184 j j j (tkI (tkI tk0)) j j j)<|nl)<|us<|gs<|?_
   obtain ⟨x12,hx12,h⟩:=bs h
   refine g1 j j (mk [(4,M 4),(5,D 2 (W 2 e_S_Point list_0)),(6,iv (list_0.length:Int)),(7,iv t_7_l2)] [(4,Oa (G 0 (u_S_Point x9)))]) (q (oLd (cs:=[.im 0 _,.im 0 _]) j tF184 j j)<|q (oCa (xs:=[.v true [.im 0 _,.im 0 _]]) (vs:=[(false,[.im 0 _])]) (v:=.v false [.im 0 _]) (L_impl_ValidPoint hx12) (.inl j) j kF205_184 j (ppC j pp0) j j pb0 j j j)<|q (oUn j j j)<|nl)<|us<|?_
   by_cases hc6:x12=true
   ·rw [if_pos hc6] at h
    refine gF j (nF (iR.2 hc6))<|Go.skip<|Unw.blk<|us<|g0 j j (q (oBi j j j j)<|q (oMv j j)<|nl)<|Unw.nil<|?_
    cases h
    exact ⟨j,(by kernel_rfl)⟩
   ·rw [if_neg hc6] at h
    refine gT j (nT (byF iR hc6))<|gs<|g0 j j (q (oAsI j j)<|nl)<|us<|Go.ret (Unw.ret ?_)
    cases h
    exact ⟨j,(fo rF175 j)⟩
  ·refine Go.exit<|ux<|Unw.nil<|?_
   cases h
   exact ⟨j,(by kernel_rfl)⟩
 ·rintro ⟨e,st⟩ hp
  rcases o with u | r2
  ·dsimp only at h
   obtain ⟨he,hst⟩:=hp
   obtain rfl:e= .exit 0:=he
   refine Unw.blkx<|us<|gs<|g2 c175 j j hst (q (oAsI j j)<|nl)<|us<|Go.ret (Unw.ret ?_)
   cases h
   exact fr rF175 j
  ·dsimp only at h
   obtain ⟨he,hfin⟩:=hp
   obtain rfl:e= .ret:=he
   cases h
   exact Unw.ret (Fin_ret hfin)
theorem L_impl_side {a_0:S_Point} {b_1:S_Point} {c_2:S_Point} {r:Int} (h:impl_side a_0 b_1 c_2=some r):FX 206 [.im 2 true (u_S_Point a_0),.im 2 true (u_S_Point b_1),.im 2 true (u_S_Point c_2)] (B0 [(false,[.im 0 (I r)])]):=by
 unfold impl_side at h
 refine gn 37 Tryz.func206 rfl ?_
 refine gs<|g0 j j (q (oBx j tF184 j (tkI (tkI tk0)))<|q (oBx j tF184 j (tkI (tkI tk0)))<|q (oBx j tF184 j (tkI (tkI tk0)))<|q (oAsI j j)<|nl)<|us<|gs<|g0 j j (q (oFA (r':=.mp 4 0 0) j fF184_0 j j)<|q (oLd (cs:=[.im 0 _]) j tF2 j j)<|q (oFA (r':=.mp 3 0 0) j fF184_0 j j)<|q (oLd (cs:=[.im 0 _]) j tF2 j j)<|q (oBi j j j j)<|q (oFA (r':=.mp 5 0 1) j fF184_1 j j)<|q (oLd (cs:=[.im 0 _]) j tF2 j j)<|q (oFA (r':=.mp 3 0 1) j fF184_1 j j)<|q (oLd (cs:=[.im 0 _]) j tF2 j j)<|q (oBi j j j j)<|q (oBi j j j j)<|q (oFA (r':=.mp 4 0 1) j fF184_1 j j)<|q (oLd (cs:=[.im 0 _]) j tF2 j j)<|q (oFA (r':=.mp 3 0 1) j fF184_1 j j)<|q (oLd (cs:=[.im 0 _]) j tF2 j j)<|q (oBi j j j j)<|q (oFA (r':=.mp 5 0 0) j fF184_0 j j)<|q (oLd (cs:=[.im 0 _]) j tF2 j j)<|q (oFA (r':=.mp 3 0 0) j fF184_0 j j)<|q (oLd (cs:=[.im 0 _]) j tF2 j j)<|q (oBi j j j j)<|q (oBi j j j j)<|q (oBi j j j j)<|q (oAsI j j)<|nl)<|us<|gs<|Go.block<|gs<|g0 j j (q (oMv j j)<|q (oBi j j j j)<|q (oAsI j j)<|nl)<|us<|gc h j iDec (fun hc1 h=>?_) fun hc1 h=>?_
 ·refine gs<|g0 j j (q (oAsI j j)<|nl)<|us<|Go.ret (Unw.ret ?_)
  cases h
  exact fr rF206 j
 ·refine gs<|g0 j j (q (oMv j j)<|q (oBi j j j j)<|q (oAsI j j)<|nl)<|us<|gc h j iDec (fun hc2 h=>?_) fun hc2 h=>?_
  ·refine gs<|g0 j j (q (oAsI j j)<|nl)<|us<|Go.ret (Unw.ret ?_)
   cases h
   exact fr rF206 j
  ·refine Go.skip<|Unw.blk<|us<|gs<|g0 j j (q (oAsI j j)<|nl)<|us<|Go.ret (Unw.ret ?_)
   cases h
   exact fr rF206 j
theorem L_impl_on {a_0:S_Point} {b_1:S_Point} {p_2:S_Point} {r:Bool} (h:impl_on a_0 b_1 p_2=some r):FX 176 [.im 2 true (u_S_Point a_0),.im 2 true (u_S_Point b_1),.im 2 true (u_S_Point p_2)] (B0 [(false,[.im 0 (V r)])]):=by
 unfold impl_on at h
 refine gn 42 Tryz.func176 rfl ?_
 refine gs<|g0 j j (q (oBx j tF184 j (tkI (tkI tk0)))<|q (oBx j tF184 j (tkI (tkI tk0)))<|q (oBx j tF184 j (tkI (tkI tk0)))<|q (oAsI j j)<|nl)<|us<|gs<|?_
 obtain ⟨x10,hx10,h⟩:=bs h
 obtain ⟨t_6_m1,hm3,h⟩:=bs h
 refine gX c176 j j j (mk [(6,bv t_6_m1)] []) ?_ ?_
 ·refine xq (oLd (cs:=[.im 0 _,.im 0 _]) j tF184 j j)<|xq (oLd (cs:=[.im 0 _,.im 0 _]) j tF184 j j)<|xq (oLd (cs:=[.im 0 _,.im 0 _]) j tF184 j j)<|xq (oCa (xs:=[.v true [.im 0 _,.im 0 _],.v true [.im 0 _,.im 0 _],.v true [.im 0 _,.im 0 _]]) (vs:=[(false,[.im 0 _])]) (v:=.v false [.im 0 _]) (L_impl_side hx10) (.inl j) j kF206_184_184_184 j (ppC j (ppC j (ppC j pp0))) j j pb0 j j j)<|xq (oBi j j j j)<|xq (oMv j j)<|?_
  refine ic hm3 (fun hc1 hm3=>?_) fun hc1 hm3=>?_
  ·obtain ⟨x25,hx25,hm3⟩:=bs hm3
   refine xqT j j (iEq.2 hc1) (oFA (r':=.mp 5 0 0) j fF184_0 j j)<|xqT j j (iEq.2 hc1) (oLd (cs:=[.im 0 _]) j tF2 j j)<|xqT j j (iEq.2 hc1) (oFA (r':=.mp 3 0 0) j fF184_0 j j)<|xqT j j (iEq.2 hc1) (oLd (cs:=[.im 0 _]) j tF2 j j)<|xqT j j (iEq.2 hc1) (oFA (r':=.mp 4 0 0) j fF184_0 j j)<|xqT j j (iEq.2 hc1) (oLd (cs:=[.im 0 _]) j tF2 j j)<|xqT j j (iEq.2 hc1) (oMin j j)<|xqT j j (iEq.2 hc1) (oFA (r':=.mp 3 0 0) j fF184_0 j j)<|xqT j j (iEq.2 hc1) (oLd (cs:=[.im 0 _]) j tF2 j j)<|xqT j j (iEq.2 hc1) (oFA (r':=.mp 4 0 0) j fF184_0 j j)<|xqT j j (iEq.2 hc1) (oLd (cs:=[.im 0 _]) j tF2 j j)<|xqT j j (iEq.2 hc1) (oMax j j)<|xqT j j (iEq.2 hc1) (oCa (xs:=[.v false [.im 0 _],.v false [.im 0 _],.v false [.im 0 _]]) (vs:=[(false,[.im 0 _])]) (v:=.v false [.im 0 _]) (L_impl_within hx25) (.inl j) j kF49_2_2_2 j (ppC j (ppC j (ppC j pp0))) j j pb0 j j j)<|xq (oPkT j j (iEq.2 hc1) j)<|xq (oMv j j)<|?_
   refine ic hm3 (fun hc2 hm3=>?_) fun hc2 hm3=>?_
   ·obtain ⟨x40,hx40,hm3⟩:=bs hm3
    cases hm3
    exact xqT j j (iR.2 hc2) (oFA (r':=.mp 5 0 1) j fF184_1 j j)<|xqT j j (iR.2 hc2) (oLd (cs:=[.im 0 _]) j tF2 j j)<|xqT j j (iR.2 hc2) (oFA (r':=.mp 3 0 1) j fF184_1 j j)<|xqT j j (iR.2 hc2) (oLd (cs:=[.im 0 _]) j tF2 j j)<|xqT j j (iR.2 hc2) (oFA (r':=.mp 4 0 1) j fF184_1 j j)<|xqT j j (iR.2 hc2) (oLd (cs:=[.im 0 _]) j tF2 j j)<|xqT j j (iR.2 hc2) (oMin j j)<|xqT j j (iR.2 hc2) (oFA (r':=.mp 3 0 1) j fF184_1 j j)<|xqT j j (iR.2 hc2) (oLd (cs:=[.im 0 _]) j tF2 j j)<|xqT j j (iR.2 hc2) (oFA (r':=.mp 4 0 1) j fF184_1 j j)<|xqT j j (iR.2 hc2) (oLd (cs:=[.im 0 _]) j tF2 j j)<|xqT j j (iR.2 hc2) (oMax j j)<|xqT j j (iR.2 hc2) (oCa (xs:=[.v false [.im 0 _],.v false [.im 0 _],.v false [.im 0 _]]) (vs:=[(false,[.im 0 _])]) (v:=.v false [.im 0 _]) (L_impl_within hx40) (.inl j) j kF49_2_2_2 j (ppC j (ppC j (ppC j pp0))) j j pb0 j j j)<|xq (oPkT j j (iR.2 hc2) j)<|xq (oAsI j j)<|xn
   ·cases hm3
    exact xsgF j j (byF iR hc2) j<|xsgF j j (byF iR hc2) j<|xsgF j j (byF iR hc2) j<|xsgF j j (byF iR hc2) j<|xsgF j j (byF iR hc2) j<|xsgF j j (byF iR hc2) j<|xsgF j j (byF iR hc2) j<|xsgF j j (byF iR hc2) j<|xsgF j j (byF iR hc2) j<|xsgF j j (byF iR hc2) j<|xsgF j j (byF iR hc2) j<|xsgF j j (byF iR hc2) j<|xsgF j j (byF iR hc2) j<|xq (oPkF j j (byF iR hc2) j)<|xq (oAsI j j)<|xn
  ·cases hm3
   exact xsgF j j (byF iEq hc1) j<|xsgF j j (byF iEq hc1) j<|xsgF j j (byF iEq hc1) j<|xsgF j j (byF iEq hc1) j<|xsgF j j (byF iEq hc1) j<|xsgF j j (byF iEq hc1) j<|xsgF j j (byF iEq hc1) j<|xsgF j j (byF iEq hc1) j<|xsgF j j (byF iEq hc1) j<|xsgF j j (byF iEq hc1) j<|xsgF j j (byF iEq hc1) j<|xsgF j j (byF iEq hc1) j<|xsgF j j (byF iEq hc1) j<|xq (oPkF j j (byF iEq hc1) j)<|xq (oMv j j)<|xsgF j j j j<|xsgF j j j j<|xsgF j j j j<|xsgF j j j j<|xsgF j j j j<|xsgF j j j j<|xsgF j j j j<|xsgF j j j j<|xsgF j j j j<|xsgF j j j j<|xsgF j j j j<|xsgF j j j j<|xsgF j j j j<|xq (oPkF j j j j)<|xq (oAsI j j)<|xn
 ·refine us<|Go.ret (Unw.ret ?_)
  cases h
  exact fr rF176 j
theorem L_impl_crossing {a_0:S_Point} {b_1:S_Point} {c_2:S_Point} {d_3:S_Point} {r:Bool} (h:impl_crossing a_0 b_1 c_2 d_3=some r):FX 207 [.im 2 true (u_S_Point a_0),.im 2 true (u_S_Point b_1),.im 2 true (u_S_Point c_2),.im 2 true (u_S_Point d_3)] (B0 [(false,[.im 0 (V r)])]):=by
 unfold impl_crossing at h
 refine gn 31 Tryz.func207 rfl ?_
 refine gs<|g0 j j (q (oBx j tF184 j (tkI (tkI tk0)))<|q (oBx j tF184 j (tkI (tkI tk0)))<|q (oBx j tF184 j (tkI (tkI tk0)))<|q (oBx j tF184 j (tkI (tkI tk0)))<|q (oAsI j j)<|nl)<|us<|gs<|?_
 obtain ⟨x12,hx12,h⟩:=bs h
 obtain ⟨x16,hx16,h⟩:=bs h
 obtain ⟨t_8_m1,hm2,h⟩:=bs h
 refine gd c207 j j j j (mk [(8,bv t_8_m1)] []) ?_ ?_
 ·refine t j j (oLd (cs:=[.im 0 _,.im 0 _]) j tF184 j j)<|t j j (oLd (cs:=[.im 0 _,.im 0 _]) j tF184 j j)<|t j j (oLd (cs:=[.im 0 _,.im 0 _]) j tF184 j j)<|t j j (oLd (cs:=[.im 0 _,.im 0 _]) j tF184 j j)<|t j j (oLd (cs:=[.im 0 _,.im 0 _]) j tF184 j j)<|?_
  refine ic hm2 (fun hc1 hm2=>?_) fun hc1 hm2=>?_
  ·obtain ⟨x23,hx23,hm2⟩:=bs hm2
   obtain ⟨x27,hx27,hm2⟩:=bs hm2
   cases hm2
   exact t j j (oLd (cs:=[.im 0 _,.im 0 _]) j tF184 j j)<|sS (dN z207 j (oCa (xs:=[.v true [.im 0 _,.im 0 _],.v true [.im 0 _,.im 0 _],.v true [.im 0 _,.im 0 _]]) (vs:=[(false,[.im 0 _])]) (v:=.v false [.im 0 _]) (L_impl_side hx12) (.inl j) j kF206_184_184_184 j (ppC j (ppC j (ppC j pp0))) j j pb0 j j j)) trivial (sS (dN z207 j (oCa (xs:=[.v true [.im 0 _,.im 0 _],.v true [.im 0 _,.im 0 _],.v true [.im 0 _,.im 0 _]]) (vs:=[(false,[.im 0 _])]) (v:=.v false [.im 0 _]) (L_impl_side hx16) (.inl j) j kF206_184_184_184 j (ppC j (ppC j (ppC j pp0))) j j pb0 j j j)) trivial (t j j (oBi j j j j)<|t j j (oBi j j j j)<|t j j (oMv j j)<|tT j j j j (iDec.2 hc1) (oLd (cs:=[.im 0 _,.im 0 _]) j tF184 j j)<|tT j j j j (iDec.2 hc1) (oLd (cs:=[.im 0 _,.im 0 _]) j tF184 j j)<|tT j j j j (iDec.2 hc1) (oLd (cs:=[.im 0 _,.im 0 _]) j tF184 j j)<|tT j j j j (iDec.2 hc1) (oLd (cs:=[.im 0 _,.im 0 _]) j tF184 j j)<|tT j j j j (iDec.2 hc1) (oLd (cs:=[.im 0 _,.im 0 _]) j tF184 j j)<|tT j j j j (iDec.2 hc1) (oLd (cs:=[.im 0 _,.im 0 _]) j tF184 j j)<|sS (dT z207 j j j (iDec.2 hc1) (oCa (xs:=[.v true [.im 0 _,.im 0 _],.v true [.im 0 _,.im 0 _],.v true [.im 0 _,.im 0 _]]) (vs:=[(false,[.im 0 _])]) (v:=.v false [.im 0 _]) (L_impl_side hx23) (.inl j) j kF206_184_184_184 j (ppC j (ppC j (ppC j pp0))) j j pb0 j j j)) trivial (sS (dT z207 j j j (iDec.2 hc1) (oCa (xs:=[.v true [.im 0 _,.im 0 _],.v true [.im 0 _,.im 0 _],.v true [.im 0 _,.im 0 _]]) (vs:=[(false,[.im 0 _])]) (v:=.v false [.im 0 _]) (L_impl_side hx27) (.inl j) j kF206_184_184_184 j (ppC j (ppC j (ppC j pp0))) j j pb0 j j j)) trivial (tT j j j j (iDec.2 hc1) (oBi j j j j)<|tT j j j j (iDec.2 hc1) (oBi j j j j)<|t j j (oPkT j j (iDec.2 hc1) j)<|sS (dN z207 j (oAsI j j)) trivial (sD (by kernel_rfl))))))
  ·cases hm2
   exact t j j (oLd (cs:=[.im 0 _,.im 0 _]) j tF184 j j)<|sS (dN z207 j (oCa (xs:=[.v true [.im 0 _,.im 0 _],.v true [.im 0 _,.im 0 _],.v true [.im 0 _,.im 0 _]]) (vs:=[(false,[.im 0 _])]) (v:=.v false [.im 0 _]) (L_impl_side hx12) (.inl j) j kF206_184_184_184 j (ppC j (ppC j (ppC j pp0))) j j pb0 j j j)) trivial (sS (dN z207 j (oCa (xs:=[.v true [.im 0 _,.im 0 _],.v true [.im 0 _,.im 0 _],.v true [.im 0 _,.im 0 _]]) (vs:=[(false,[.im 0 _])]) (v:=.v false [.im 0 _]) (L_impl_side hx16) (.inl j) j kF206_184_184_184 j (ppC j (ppC j (ppC j pp0))) j j pb0 j j j)) trivial (t j j (oBi j j j j)<|t j j (oBi j j j j)<|t j j (oMv j j)<|tF j j j j (byF iDec hc1) j<|tF j j j j (byF iDec hc1) j<|tF j j j j (byF iDec hc1) j<|tF j j j j (byF iDec hc1) j<|tF j j j j (byF iDec hc1) j<|tF j j j j (byF iDec hc1) j<|sS (dF j j j (byF iDec hc1) j) trivial (sS (dF j j j (byF iDec hc1) j) trivial (tF j j j j (byF iDec hc1) j<|tF j j j j (byF iDec hc1) j<|t j j (oPkF j j (byF iDec hc1) j)<|sS (dN z207 j (oAsI j j)) trivial (sD (by kernel_rfl))))))
 ·refine us<|Go.ret (Unw.ret ?_)
  cases h
  exact fr rF207 j
theorem L_impl_touching {a_0:S_Point} {b_1:S_Point} {c_2:S_Point} {d_3:S_Point} {r:Bool} (h:impl_touching a_0 b_1 c_2 d_3=some r):FX 177 [.im 2 true (u_S_Point a_0),.im 2 true (u_S_Point b_1),.im 2 true (u_S_Point c_2),.im 2 true (u_S_Point d_3)] (B0 [(false,[.im 0 (V r)])]):=by
 unfold impl_touching at h
 refine gn 38 Tryz.func177 rfl ?_
 refine gs<|g0 j j (q (oBx j tF184 j (tkI (tkI tk0)))<|q (oBx j tF184 j (tkI (tkI tk0)))<|q (oBx j tF184 j (tkI (tkI tk0)))<|q (oBx j tF184 j (tkI (tkI tk0)))<|q (oAsI j j)<|nl)<|us<|gs<|?_
 obtain ⟨x13,hx13,h⟩:=bs h
 obtain ⟨t_8_m1,hm5,h⟩:=bs h
 refine gX c177 j j j (mk [(8,bv t_8_m1)] []) ?_ ?_
 ·refine xq (oLd (cs:=[.im 0 _,.im 0 _]) j tF184 j j)<|xq (oLd (cs:=[.im 0 _,.im 0 _]) j tF184 j j)<|xq (oLd (cs:=[.im 0 _,.im 0 _]) j tF184 j j)<|xq (oLd (cs:=[.im 0 _,.im 0 _]) j tF184 j j)<|xq (oCa (xs:=[.v true [.im 0 _,.im 0 _],.v true [.im 0 _,.im 0 _],.v true [.im 0 _,.im 0 _],.v true [.im 0 _,.im 0 _]]) (vs:=[(false,[.im 0 _])]) (v:=.v false [.im 0 _]) (L_impl_crossing hx13) (.inl j) j kF207_184_184_184_184 j (ppC j (ppC j (ppC j (ppC j pp0)))) j j pb0 j j j)<|xq (oMv j j)<|?_
  refine ic hm5 (fun hc1 hm5=>?_) fun hc1 hm5=>?_
  ·cases hm5
   exact xsgF j j (iR.2 hc1) j<|xsgF j j (iR.2 hc1) j<|xsgF j j (iR.2 hc1) j<|xsgF j j (iR.2 hc1) j<|xq (oPkT j j (iR.2 hc1) j)<|xq (oMv j j)<|xsgF j j j j<|xsgF j j j j<|xsgF j j j j<|xsgF j j j j<|xq (oPkT j j j j)<|xq (oMv j j)<|xsgF j j j j<|xsgF j j j j<|xsgF j j j j<|xsgF j j j j<|xq (oPkT j j j j)<|xq (oMv j j)<|xsgF j j j j<|xsgF j j j j<|xsgF j j j j<|xsgF j j j j<|xq (oPkT j j j j)<|xq (oAsI j j)<|xn
  ·obtain ⟨x18,hx18,hm5⟩:=bs hm5
   refine xqT j j (byF iR hc1) (oLd (cs:=[.im 0 _,.im 0 _]) j tF184 j j)<|xqT j j (byF iR hc1) (oLd (cs:=[.im 0 _,.im 0 _]) j tF184 j j)<|xqT j j (byF iR hc1) (oLd (cs:=[.im 0 _,.im 0 _]) j tF184 j j)<|xqT j j (byF iR hc1) (oCa (xs:=[.v true [.im 0 _,.im 0 _],.v true [.im 0 _,.im 0 _],.v true [.im 0 _,.im 0 _]]) (vs:=[(false,[.im 0 _])]) (v:=.v false [.im 0 _]) (L_impl_on hx18) (.inl j) j kF176_184_184_184 j (ppC j (ppC j (ppC j pp0))) j j pb0 j j j)<|xq (oPkF j j (byF iR hc1) j)<|xq (oMv j j)<|?_
   refine ic hm5 (fun hc2 hm5=>?_) fun hc2 hm5=>?_
   ·cases hm5
    exact xsgF j j (iR.2 hc2) j<|xsgF j j (iR.2 hc2) j<|xsgF j j (iR.2 hc2) j<|xsgF j j (iR.2 hc2) j<|xq (oPkT j j (iR.2 hc2) j)<|xq (oMv j j)<|xsgF j j j j<|xsgF j j j j<|xsgF j j j j<|xsgF j j j j<|xq (oPkT j j j j)<|xq (oMv j j)<|xsgF j j j j<|xsgF j j j j<|xsgF j j j j<|xsgF j j j j<|xq (oPkT j j j j)<|xq (oAsI j j)<|xn
   ·obtain ⟨x24,hx24,hm5⟩:=bs hm5
    refine xqT j j (byF iR hc2) (oLd (cs:=[.im 0 _,.im 0 _]) j tF184 j j)<|xqT j j (byF iR hc2) (oLd (cs:=[.im 0 _,.im 0 _]) j tF184 j j)<|xqT j j (byF iR hc2) (oLd (cs:=[.im 0 _,.im 0 _]) j tF184 j j)<|xqT j j (byF iR hc2) (oCa (xs:=[.v true [.im 0 _,.im 0 _],.v true [.im 0 _,.im 0 _],.v true [.im 0 _,.im 0 _]]) (vs:=[(false,[.im 0 _])]) (v:=.v false [.im 0 _]) (L_impl_on hx24) (.inl j) j kF176_184_184_184 j (ppC j (ppC j (ppC j pp0))) j j pb0 j j j)<|xq (oPkF j j (byF iR hc2) j)<|xq (oMv j j)<|?_
    refine ic hm5 (fun hc3 hm5=>?_) fun hc3 hm5=>?_
    ·cases hm5
     exact xsgF j j (iR.2 hc3) j<|xsgF j j (iR.2 hc3) j<|xsgF j j (iR.2 hc3) j<|xsgF j j (iR.2 hc3) j<|xq (oPkT j j (iR.2 hc3) j)<|xq (oMv j j)<|xsgF j j j j<|xsgF j j j j<|xsgF j j j j<|xsgF j j j j<|xq (oPkT j j j j)<|xq (oAsI j j)<|xn
    ·obtain ⟨x30,hx30,hm5⟩:=bs hm5
     refine xqT j j (byF iR hc3) (oLd (cs:=[.im 0 _,.im 0 _]) j tF184 j j)<|xqT j j (byF iR hc3) (oLd (cs:=[.im 0 _,.im 0 _]) j tF184 j j)<|xqT j j (byF iR hc3) (oLd (cs:=[.im 0 _,.im 0 _]) j tF184 j j)<|xqT j j (byF iR hc3) (oCa (xs:=[.v true [.im 0 _,.im 0 _],.v true [.im 0 _,.im 0 _],.v true [.im 0 _,.im 0 _]]) (vs:=[(false,[.im 0 _])]) (v:=.v false [.im 0 _]) (L_impl_on hx30) (.inl j) j kF176_184_184_184 j (ppC j (ppC j (ppC j pp0))) j j pb0 j j j)<|xq (oPkF j j (byF iR hc3) j)<|xq (oMv j j)<|?_
     refine ic hm5 (fun hc4 hm5=>?_) fun hc4 hm5=>?_
     ·cases hm5
      exact xsgF j j (iR.2 hc4) j<|xsgF j j (iR.2 hc4) j<|xsgF j j (iR.2 hc4) j<|xsgF j j (iR.2 hc4) j<|xq (oPkT j j (iR.2 hc4) j)<|xq (oAsI j j)<|xn
     ·obtain ⟨x36,hx36,hm5⟩:=bs hm5
      cases hm5
      exact xqT j j (byF iR hc4) (oLd (cs:=[.im 0 _,.im 0 _]) j tF184 j j)<|xqT j j (byF iR hc4) (oLd (cs:=[.im 0 _,.im 0 _]) j tF184 j j)<|xqT j j (byF iR hc4) (oLd (cs:=[.im 0 _,.im 0 _]) j tF184 j j)<|xqT j j (byF iR hc4) (oCa (xs:=[.v true [.im 0 _,.im 0 _],.v true [.im 0 _,.im 0 _],.v true [.im 0 _,.im 0 _]]) (vs:=[(false,[.im 0 _])]) (v:=.v false [.im 0 _]) (L_impl_on hx36) (.inl j) j kF176_184_184_184 j (ppC j (ppC j (ppC j pp0))) j j pb0 j j j)<|xq (oPkF j j (byF iR hc4) j)<|xq (oAsI j j)<|xn
 ·refine us<|Go.ret (Unw.ret ?_)
  cases h
  exact fr rF177 j
theorem L_impl_doubled {p_0:(List S_Point)} {r:Int} (h:impl_doubled p_0=some r):FX 178 [.im 2 false [W 2 e_S_Point p_0]] (B0 [(false,[.im 0 (I r)])]):=by
 unfold impl_doubled at h
 refine gn 37 Tryz.func178 rfl ?_
 refine gs<|g0 j j (q (oAsI j j)<|nl)<|us<|gs<|g0 j j (q (oAsI j j)<|nl)<|us<|gs<|gs<|g0 j j (q (oMv j j)<|q (oLnI j j uF38 j)<|q (oMv j j)<|nl)<|us<|Go.block<|?_
 obtain ⟨o,hl,h⟩:=bs h
 refine gl c178 j _ (fun (s:(Int×Int))=>match s with | (sum_3_l3,t_9_l3)=>mk [(0,D 2 (W 2 e_S_Point p_0)),(3,iv sum_3_l3),(7,D 2 (W 2 e_S_Point p_0)),(8,iv (p_0.length:Int)),(9,iv t_9_l3)] []) (fun (sum_3_e0_3:Int) (p:Ex×St)=>p.1= .exit 0∧p.2.norm ([3],[])=mk [(3,iv sum_3_e0_3)] []) hl (by kernel_rfl) ?_ ?_ ?_
 ·intro o p hp e
  exact nomatch (hp.1.symm.trans e)
 ·rintro ⟨sum_3_l3,t_9_l3⟩ o h
  unfold impl_doubled_l3 at h
  dsimp only at h
  refine gs<|g0 j j (q (oBi j j j j)<|nl)<|us<|gs<|gc h j iDec (fun hc3 h=>?_) fun hc3 h=>?_
  ·refine Go.skip<|us<|gs<|Go.block<|gs<|?_
   obtain ⟨x12,hx12,h⟩:=bs h
   refine g0 j j (q (oMv j j)<|q (oIAI j hx12 sF38 j j)<|q (oLd (cs:=[.im 2 _,.im 2 _]) j tF184 j j)<|q (oAl j tF184 (tkI (tkI tk0)))<|q (oAsI j j)<|q (oSt tF184 j j j (tkI (tkI tk0)) j j j)<|nl)<|us<|gs<|?_
   obtain ⟨x19,hx19,h⟩:=bs h
   obtain ⟨x20,hx20,h⟩:=bs h
   refine g1 j j (mk [(0,D 2 (W 2 e_S_Point p_0)),(3,iv sum_3_l3),(4,iv t_9_l3),(5,M 5),(7,D 2 (W 2 e_S_Point p_0)),(8,iv (p_0.length:Int)),(9,iv t_9_l3)] [(5,Oa (G 0 (u_S_Point x12)))]) (q (oMv j j)<|q (oMv j j)<|q (oBi j j j j)<|q (oMv j j)<|q (oLnI j j uF38 j)<|q (oRem j hx19 j j)<|q (oIAI j hx20 sF38 j j)<|q (oLd (cs:=[.im 2 _,.im 2 _]) j tF184 j j)<|q (oAl j tF184 (tkI (tkI tk0)))<|q (oSt tF184 j j j (tkI (tkI tk0)) j j j)<|nl)<|us<|g1 j j (mk [(0,D 2 (W 2 e_S_Point p_0)),(3,iv sum_3_l3),(5,M 5),(6,M 6),(7,D 2 (W 2 e_S_Point p_0)),(8,iv (p_0.length:Int)),(9,iv t_9_l3)] [(5,Oa (G 0 (u_S_Point x12))),(6,Oa (G 0 (u_S_Point x20)))]) (q (oMv j j)<|q (oFA (r':=.mp 5 0 0) j fF184_0 j j)<|q (oLd (cs:=[.im 0 _]) j tF2 j j)<|q (oFA (r':=.mp 6 0 1) j fF184_1 j j)<|q (oLd (cs:=[.im 0 _]) j tF2 j j)<|q (oBi j j j j)<|q (oFA (r':=.mp 5 0 1) j fF184_1 j j)<|q (oLd (cs:=[.im 0 _]) j tF2 j j)<|q (oFA (r':=.mp 6 0 0) j fF184_0 j j)<|q (oLd (cs:=[.im 0 _]) j tF2 j j)<|q (oBi j j j j)<|q (oBi j j j j)<|q (oBi j j j j)<|q (oAsI j j)<|nl)<|Unw.blk<|us<|g0 j j (q (oBi j j j j)<|q (oMv j j)<|nl)<|Unw.nil<|?_
   cases h
   exact ⟨j,(by kernel_rfl)⟩
  ·refine Go.exit<|ux<|Unw.nil<|?_
   cases h
   exact ⟨j,(by kernel_rfl)⟩
 ·rintro ⟨e,st⟩ hp
  obtain ⟨sum_3_e0_3,rfl⟩:∃y,y=o:=⟨o,rfl⟩
  obtain ⟨he,hst⟩:=hp
  obtain rfl:e= .exit 0:=he
  refine Unw.blkx<|us<|gs<|g2 c178 j j hst (q (oMv j j)<|q (oAsI j j)<|nl)<|us<|Go.ret (Unw.ret ?_)
  cases h
  exact fr rF178 j
theorem L_impl_ValidPolygon {p_0:(List S_Point)} {r:Bool} (h:impl_ValidPolygon p_0=some r):FX 146 [.im 2 false [W 2 e_S_Point p_0]] (B0 [(false,[.im 0 (V r)])]):=by
 unfold impl_ValidPolygon at h
 refine gn 93 Tryz.func146 rfl ?_
 refine gs<|g0 j j (q (oAsI j j)<|nl)<|us<|gs<|g0 j j (q (oMv j j)<|q (oLnI j j uF38 j)<|q (oAsI j j)<|nl)<|us<|gs<|gs<|?_
 obtain ⟨t_21_m2,hm47,h⟩:=bs h
 refine gX c146 j j j (mk [(0,D 2 (W 2 e_S_Point p_0)),(3,iv (p_0.length:Int)),(21,bv t_21_m2)] []) ?_ ?_
 ·refine xq (oMv j j)<|xq (oBi j j j j)<|xq (oMv j j)<|?_
  refine ic hm47 (fun hc1 hm47=>?_) fun hc1 hm47=>?_
  ·cases hm47
   exact xsgF j j (iDec.2 hc1) j<|xsgF j j (iDec.2 hc1) j<|xq (oPkT j j (iDec.2 hc1) j)<|xq (oMv j j)<|xsgF j j j j<|xsgF j j j j<|xsgF j j j j<|xq (oPkT j j j j)<|xn
  ·refine xqT j j (byF iDec hc1) (oMv j j)<|xqT j j (byF iDec hc1) (oBi j j j j)<|xq (oPkF j j (byF iDec hc1) j)<|xq (oMv j j)<|?_
   refine ic hm47 (fun hc2 hm47=>?_) fun hc2 hm47=>?_
   ·cases hm47
    exact xsgF j j (iDec.2 hc2) j<|xsgF j j (iDec.2 hc2) j<|xsgF j j (iDec.2 hc2) j<|xq (oPkT j j (iDec.2 hc2) j)<|xn
   ·obtain ⟨x19,hx19,hm47⟩:=bs hm47
    cases hm47
    exact xqT j j (byF iDec hc2) (oMv j j)<|xqT j j (byF iDec hc2) (oCa (xs:=[.v false [.im 2 _]]) (vs:=[(false,[.im 0 _])]) (v:=.v false [.im 0 _]) (L_impl_validPoints hx19) (.inl j) j kF175_38 j (ppC j pp0) j j pb0 j j j)<|xqT j j (byF iDec hc2) (oUn j j j)<|xq (oPkF j j (byF iDec hc2) j)<|xn
 ·refine us<|gc h j iR (fun hc3 h=>?_) fun hc3 h=>?_
  ·refine gs<|g0 j j (q (oAsI j j)<|nl)<|us<|Go.ret (Unw.ret ?_)
   cases h
   exact fr rF146 j
  ·refine Go.skip<|us<|gs<|gs<|g0 j j (q (oMv j j)<|q (oLnI j j uF38 j)<|q (oMv j j)<|nl)<|us<|Go.block<|?_
   obtain ⟨o,hl,h⟩:=bs h
   refine gl c146 j _ (fun (t_24_l5:Int)=>mk [(0,D 2 (W 2 e_S_Point p_0)),(3,iv (p_0.length:Int)),(23,iv (p_0.length:Int)),(24,iv t_24_l5)] []) (fun (o:(Unit ⊕ Bool)) (p:Ex×St)=>match o with | (.inl _)=>p.1= .exit 0∧p.2.norm ([0],[])=mk [(0,D 2 (W 2 e_S_Point p_0))] [] | (.inr r2)=>p.1= .ret∧fin Tryz.prog cfg 146 Tryz.f146 [.im 2 false [W 2 e_S_Point p_0]] p.2=some (B0 [(false,[.im 0 (V r2)])])) hl (by kernel_rfl) ?_ ?_ ?_
   ·intro o p hp e
    rcases o with u | r2<;>exact nomatch (hp.1.symm.trans e)
   ·rintro t_24_l5 o h
    unfold impl_ValidPolygon_l5 at h
    refine gs<|g0 j j (q (oBi j j j j)<|nl)<|us<|gs<|gc h j iDec (fun hc30 h=>?_) fun hc30 h=>?_
    ·refine Go.skip<|us<|gs<|Go.block<|gs<|g0 j j (q (oMv j j)<|q (oAsI j j)<|nl)<|us<|gs<|?_
     obtain ⟨x29,hx29,h⟩:=bs h
     obtain ⟨x35,hx35,h⟩:=bs h
     obtain ⟨x36,hx36,h⟩:=bs h
     obtain ⟨x42,hx42,h⟩:=bs h
     obtain ⟨x43,hx43,h⟩:=bs h
     refine gd c146 j j j j (mk [(0,D 2 (W 2 e_S_Point p_0)),(3,iv (p_0.length:Int)),(4,iv t_24_l5),(5,M 5),(6,M 6),(7,M 7),(23,iv (p_0.length:Int)),(24,iv t_24_l5)] [(5,Oa (G 0 (u_S_Point x29))),(6,Oa (G 0 (u_S_Point x36))),(7,Oa (G 0 (u_S_Point x43)))]) (t j j (oMv j j)<|t j j (oMv j j)<|t j j (oIAI j hx29 sF38 j j)<|t j j (oLd (cs:=[.im 2 _,.im 2 _]) j tF184 j j)<|t j j (oMv j j)<|t j j (oMv j j)<|t j j (oBi j j j j)<|t j j (oMv j j)<|t j j (oRem j hx35 j j)<|t j j (oIAI j hx36 sF38 j j)<|t j j (oLd (cs:=[.im 2 _,.im 2 _]) j tF184 j j)<|t j j (oMv j j)<|t j j (oMv j j)<|t j j (oBi j j j j)<|t j j (oMv j j)<|t j j (oRem j hx42 j j)<|t j j (oIAI j hx43 sF38 j j)<|t j j (oLd (cs:=[.im 2 _,.im 2 _]) j tF184 j j)<|sF (dN z146 j (oAl j tF184 (tkI (tkI tk0)))) trivial (sF (dN z146 j (oAl j tF184 (tkI (tkI tk0)))) trivial (sS (dN z146 j (oAl j tF184 (tkI (tkI tk0)))) trivial (sS (dN z146 j (oSt tF184 j j j (tkI (tkI tk0)) j j j)) trivial (sS (dN z146 j (oSt tF184 j j j (tkI (tkI tk0)) j j j)) trivial (sS (dN z146 j (oSt tF184 j j j (tkI (tkI tk0)) j j j)) trivial (sD (by kernel_rfl)))))) (sS (dN z146 j (oAl j tF184 (tkI (tkI tk0)))) trivial (sS (dN z146 j (oAl j tF184 (tkI (tkI tk0)))) trivial (sS (dN z146 j (oSt tF184 j j j (tkI (tkI tk0)) j j j)) trivial (sS (dN z146 j (oSt tF184 j j j (tkI (tkI tk0)) j j j)) trivial (sS (dN z146 j (oSt tF184 j j j (tkI (tkI tk0)) j j j)) trivial (sD (by kernel_rfl)))))))) (sF (dN z146 j (oAl j tF184 (tkI (tkI tk0)))) trivial (sF (dN z146 j (oAl j tF184 (tkI (tkI tk0)))) trivial (sS (dN z146 j (oAl j tF184 (tkI (tkI tk0)))) trivial (sS (dN z146 j (oSt tF184 j j j (tkI (tkI tk0)) j j j)) trivial (sS (dN z146 j (oSt tF184 j j j (tkI (tkI tk0)) j j j)) trivial (sS (dN z146 j (oSt tF184 j j j (tkI (tkI tk0)) j j j)) trivial (sD (by kernel_rfl)))))) (sS (dN z146 j (oAl j tF184 (tkI (tkI tk0)))) trivial (sS (dN z146 j (oAl j tF184 (tkI (tkI tk0)))) trivial (sS (dN z146 j (oSt tF184 j j j (tkI (tkI tk0)) j j j)) trivial (sS (dN z146 j (oSt tF184 j j j (tkI (tkI tk0)) j j j)) trivial (sS (dN z146 j (oSt tF184 j j j (tkI (tkI tk0)) j j j)) trivial (sD (by kernel_rfl)))))))) (sS (dN z146 j (oAl j tF184 (tkI (tkI tk0)))) trivial (sF (dN z146 j (oAl j tF184 (tkI (tkI tk0)))) trivial (sS (dN z146 j (oAl j tF184 (tkI (tkI tk0)))) trivial (sS (dN z146 j (oSt tF184 j j j (tkI (tkI tk0)) j j j)) trivial (sS (dN z146 j (oSt tF184 j j j (tkI (tkI tk0)) j j j)) trivial (sS (dN z146 j (oSt tF184 j j j (tkI (tkI tk0)) j j j)) trivial (sD (by kernel_rfl)))))) (sS (dN z146 j (oAl j tF184 (tkI (tkI tk0)))) trivial (sS (dN z146 j (oAl j tF184 (tkI (tkI tk0)))) trivial (sS (dN z146 j (oSt tF184 j j j (tkI (tkI tk0)) j j j)) trivial (sS (dN z146 j (oSt tF184 j j j (tkI (tkI tk0)) j j j)) trivial (sS (dN z146 j (oSt tF184 j j j (tkI (tkI tk0)) j j j)) trivial (sD (by kernel_rfl)))))))))))<|us<|gs<|gs<|?_
     obtain ⟨t_59_m8,hm46,h⟩:=bs h
     refine gX c146 j j j (mk [(0,D 2 (W 2 e_S_Point p_0)),(3,iv (p_0.length:Int)),(4,iv t_24_l5),(5,M 5),(6,M 6),(23,iv (p_0.length:Int)),(24,iv t_24_l5),(59,bv t_59_m8)] [(5,Oa (G 0 (u_S_Point x29))),(6,Oa (G 0 (u_S_Point x36)))]) ?_ ?_
     ·refine xq (oLd (cs:=[.im 0 _,.im 0 _]) j tF184 j j)<|xq (oLd (cs:=[.im 0 _,.im 0 _]) j tF184 j j)<|xq (oBa j (qEF184 x29.X x29.Y x36.X x36.Y) j j j j)<|xq (oMv j j)<|?_
      refine ic hm46 (fun hc31 hm46=>?_) fun hc31 hm46=>?_
      ·cases hm46
       exact xsgF j j ((iAnd iEq iEq).2 hc31) j<|xsgF j j ((iAnd iEq iEq).2 hc31) j<|xsgF j j ((iAnd iEq iEq).2 hc31) j<|xsgF j j ((iAnd iEq iEq).2 hc31) j<|xq (oPkT j j ((iAnd iEq iEq).2 hc31) j)<|xq (oMv j j)<|xsgF j j j j<|xsgF j j j j<|xsgF j j j j<|xsgF j j j j<|xq (oPkT j j j j)<|xn
      ·obtain ⟨x52,hx52,hm46⟩:=bs hm46
       refine xqT j j (byF (iAnd iEq iEq) hc31) (oLd (cs:=[.im 0 _,.im 0 _]) j tF184 j j)<|xqT j j (byF (iAnd iEq iEq) hc31) (oLd (cs:=[.im 0 _,.im 0 _]) j tF184 j j)<|xqT j j (byF (iAnd iEq iEq) hc31) (oLd (cs:=[.im 0 _,.im 0 _]) j tF184 j j)<|xqT j j (byF (iAnd iEq iEq) hc31) (oCa (xs:=[.v true [.im 0 _,.im 0 _],.v true [.im 0 _,.im 0 _],.v true [.im 0 _,.im 0 _]]) (vs:=[(false,[.im 0 _])]) (v:=.v false [.im 0 _]) (L_impl_on hx52) (.inl j) j kF176_184_184_184 j (ppC j (ppC j (ppC j pp0))) j j pb0 j j j)<|xq (oPkF j j (byF (iAnd iEq iEq) hc31) j)<|xq (oMv j j)<|?_
       refine ic hm46 (fun hc32 hm46=>?_) fun hc32 hm46=>?_
       ·cases hm46
        exact xsgF j j (iR.2 hc32) j<|xsgF j j (iR.2 hc32) j<|xsgF j j (iR.2 hc32) j<|xsgF j j (iR.2 hc32) j<|xq (oPkT j j (iR.2 hc32) j)<|xn
       ·obtain ⟨x58,hx58,hm46⟩:=bs hm46
        cases hm46
        exact xqT j j (byF iR hc32) (oLd (cs:=[.im 0 _,.im 0 _]) j tF184 j j)<|xqT j j (byF iR hc32) (oLd (cs:=[.im 0 _,.im 0 _]) j tF184 j j)<|xqT j j (byF iR hc32) (oLd (cs:=[.im 0 _,.im 0 _]) j tF184 j j)<|xqT j j (byF iR hc32) (oCa (xs:=[.v true [.im 0 _,.im 0 _],.v true [.im 0 _,.im 0 _],.v true [.im 0 _,.im 0 _]]) (vs:=[(false,[.im 0 _])]) (v:=.v false [.im 0 _]) (L_impl_on hx58) (.inl j) j kF176_184_184_184 j (ppC j (ppC j (ppC j pp0))) j j pb0 j j j)<|xq (oPkF j j (byF iR hc32) j)<|xn
     ·refine us<|gc h j iR (fun hc33 h=>?_) fun hc33 h=>?_
      ·refine gs<|g0 j j (q (oAsI j j)<|nl)<|us<|Go.ret (Unw.ret ?_)
       cases h
       exact ⟨j,(fo rF146 j)⟩
      ·refine Go.skip<|us<|gs<|g0 j j (q (oMv j j)<|q (oBi j j j j)<|q (oAsI j j)<|nl)<|us<|Go.block<|?_
       obtain ⟨o,hl,h⟩:=bs h
       refine gl c146 j _ (fun (k_8_l11:Int)=>mk [(0,D 2 (W 2 e_S_Point p_0)),(3,iv (p_0.length:Int)),(4,iv t_24_l5),(5,M 5),(6,M 6),(8,iv k_8_l11),(23,iv (p_0.length:Int)),(24,iv t_24_l5)] [(5,Oa (G 0 (u_S_Point x29))),(6,Oa (G 0 (u_S_Point x36)))]) (fun (o:(Unit ⊕ Bool)) (p:Ex×St)=>match o with | (.inl _)=>p.1= .exit 2∧p.2.norm ([0,3,23,24],[])=mk [(0,D 2 (W 2 e_S_Point p_0)),(3,iv (p_0.length:Int)),(23,iv (p_0.length:Int)),(24,iv t_24_l5)] [] | (.inr r2)=>p.1= .ret∧fin Tryz.prog cfg 146 Tryz.f146 [.im 2 false [W 2 e_S_Point p_0]] p.2=some (B0 [(false,[.im 0 (V r2)])])) hl (by kernel_rfl) ?_ ?_ ?_
       ·intro o p hp e
        rcases o with u | r2<;>exact nomatch (hp.1.symm.trans e)
       ·rintro k_8_l11 o h
        unfold impl_ValidPolygon_l11 at h
        refine gs<|gs<|g0 j j (q (oMv j j)<|q (oMv j j)<|q (oBi j j j j)<|nl)<|us<|gc h j iDec (fun hc42 h=>?_) fun hc42 h=>?_
        ·refine Go.skip<|us<|gs<|Go.block<|gs<|?_
         obtain ⟨x70,hx70,h⟩:=bs h
         obtain ⟨t_88_m13,hm45,h⟩:=bs h
         refine gd c146 j j j j (mk [(0,D 2 (W 2 e_S_Point p_0)),(3,iv (p_0.length:Int)),(4,iv t_24_l5),(5,M 5),(6,M 6),(8,iv k_8_l11),(23,iv (p_0.length:Int)),(24,iv t_24_l5),(88,bv t_88_m13)] [(5,Oa (G 0 (u_S_Point x29))),(6,Oa (G 0 (u_S_Point x36)))]) ?_ ?_
         ·refine t j j (oMv j j)<|t j j (oBi j j j j)<|t j j (oMv j j)<|t j j (oRem j hx70 j j)<|t j j (oMv j j)<|t j j (oBi j j j j)<|t j j (oMv j j)<|?_
          refine ic hm45 (fun hc43 hm45=>?_) fun hc43 hm45=>?_
          ·obtain ⟨x78,hx78,hm45⟩:=bs hm45
           obtain ⟨x84,hx84,hm45⟩:=bs hm45
           obtain ⟨x85,hx85,hm45⟩:=bs hm45
           obtain ⟨x87,hx87,hm45⟩:=bs hm45
           cases hm45
           exact tT j j j j (iNe.2 hc43) (oLd (cs:=[.im 0 _,.im 0 _]) j tF184 j j)<|tT j j j j (iNe.2 hc43) (oLd (cs:=[.im 0 _,.im 0 _]) j tF184 j j)<|tT j j j j (iNe.2 hc43) (oMv j j)<|tT j j j j (iNe.2 hc43) (oMv j j)<|tT j j j j (iNe.2 hc43) (oIAI j hx78 sF38 j j)<|tT j j j j (iNe.2 hc43) (oLd (cs:=[.im 2 _,.im 2 _]) j tF184 j j)<|tT j j j j (iNe.2 hc43) (oMv j j)<|tT j j j j (iNe.2 hc43) (oMv j j)<|tT j j j j (iNe.2 hc43) (oBi j j j j)<|tT j j j j (iNe.2 hc43) (oMv j j)<|tT j j j j (iNe.2 hc43) (oRem j hx84 j j)<|tT j j j j (iNe.2 hc43) (oIAI j hx85 sF38 j j)<|tT j j j j (iNe.2 hc43) (oLd (cs:=[.im 2 _,.im 2 _]) j tF184 j j)<|sS (dT z146 j j j (iNe.2 hc43) (oCa (xs:=[.v true [.im 0 _,.im 0 _],.v true [.im 0 _,.im 0 _],.v true [.im 2 _,.im 2 _],.v true [.im 2 _,.im 2 _]]) (vs:=[(false,[.im 0 _])]) (v:=.v false [.im 0 _]) (L_impl_touching hx87) (.inl j) j kF177_184_184_184_184 j (ppC j (ppC j (ppC j (ppC j pp0)))) j j pb0 j j j)) trivial (t j j (oPkT j j (iNe.2 hc43) j)<|sD (by kernel_rfl))
          ·cases hm45
           exact tF j j j j (byF iNe hc43) j<|tF j j j j (byF iNe hc43) j<|tF j j j j (byF iNe hc43) j<|tF j j j j (byF iNe hc43) j<|tF j j j j (byF iNe hc43) j<|tF j j j j (byF iNe hc43) j<|tF j j j j (byF iNe hc43) j<|tF j j j j (byF iNe hc43) j<|tF j j j j (byF iNe hc43) j<|tF j j j j (byF iNe hc43) j<|tF j j j j (byF iNe hc43) j<|tF j j j j (byF iNe hc43) j<|tF j j j j (byF iNe hc43) j<|sS (dF j j j (byF iNe hc43) j) trivial (t j j (oPkF j j (byF iNe hc43) j)<|sD (by kernel_rfl))
         ·refine us<|gc h j iR (fun hc44 h=>?_) fun hc44 h=>?_
          ·refine gs<|g0 j j (q (oAsI j j)<|nl)<|us<|Go.ret (Unw.ret ?_)
           cases h
           exact ⟨j,(fo rF146 j)⟩
          ·refine Go.skip<|Unw.blk<|us<|g0 j j (q (oMv j j)<|q (oBi j j j j)<|q (oAsI j j)<|nl)<|Unw.nil<|?_
           cases h
           exact ⟨j,(by kernel_rfl)⟩
        ·refine Go.exit<|ux<|Unw.nil<|?_
         cases h
         exact ⟨j,(by kernel_rfl)⟩
       ·rintro ⟨e,st⟩ hp
        rcases o with u | r2
        ·dsimp only at h
         obtain ⟨he,hst⟩:=hp
         obtain rfl:e= .exit 2:=he
         refine Unw.blkx<|Unw.blk<|us<|g2 c146 j j hst (q (oBi j j j j)<|q (oMv j j)<|nl)<|Unw.nil<|?_
         cases h
         exact ⟨j,(by kernel_rfl)⟩
        ·dsimp only at h
         obtain ⟨he,hfin⟩:=hp
         obtain rfl:e= .ret:=he
         cases h
         exact Unw.ret ⟨j,hfin⟩
    ·refine Go.exit<|ux<|Unw.nil<|?_
     cases h
     exact ⟨j,(by kernel_rfl)⟩
   ·rintro ⟨e,st⟩ hp
    rcases o with u | r2
    ·dsimp only at h
     obtain ⟨he,hst⟩:=hp
     obtain rfl:e= .exit 0:=he
     refine Unw.blkx<|us<|gs<|?_
     obtain ⟨x91,hx91,h⟩:=bs h
     refine g2 c146 j j hst (q (oMv j j)<|q (oCa (xs:=[.v false [.im 2 _]]) (vs:=[(false,[.im 0 _])]) (v:=.v false [.im 0 _]) (L_impl_doubled hx91) (.inl j) j kF178_38 j (ppC j pp0) j j pb0 j j j)<|q (oBi j j j j)<|q (oAsI j j)<|nl)<|us<|Go.ret (Unw.ret ?_)
     cases h
     exact fr rF146 j
    ·dsimp only at h
     obtain ⟨he,hfin⟩:=hp
     obtain rfl:e= .ret:=he
     cases h
     exact Unw.ret (Fin_ret hfin)
end
end Go.Proofs.YtonnimmkimccfaaGreat
