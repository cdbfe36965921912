/- The machine answers, at each function of the program that is reached, what its plain function answers: a further part. Conditions: none. -/
import Derived.Test.YtigjhjlkdamncaaTmaLa
namespace Go.Proofs.Ytigjhjlkdamncaa
open Go Go.Sim Go.Pw Go.Proofs
set_option linter.unusedVariables false
set_option linter.unusedSimpArgs false
set_option maxRecDepth 100000
set_option maxHeartbeats 4000000
noncomputable section

theorem L_slices_symMergeCmpFunc_int64_229_F {self : ((List Int) × Int × Int × Int × (Int → Int → Option Int)) → Option (List Int)} {fc4_0_0 : (List S_Feature)} {fc4_1_0 : ByteArray} {fc4_1_1 : (List Int)} (ih : ∀ {data_0 : (List Int)} {a_1 : Int} {m_2 : Int} {b_3 : Int} {r : (List Int)}, self (data_0, a_1, m_2, b_3, (fun b0 b1 => impl_RankedFeatures_c1 b0 b1 fc4_0_0 fc4_1_0 fc4_1_1)) = some r → FL Try.prog cfg 275 [.ow 1 (List.map eI data_0), .im 2 false [.sc (.int .i64 a_1)], .im 2 false [.sc (.int .i64 m_2)], .im 2 false [.sc (.int .i64 b_3)], .im 2 false [.clo 229 [.cp [.row 2 (List.map e_S_Feature fc4_0_0)] 0, .cp [.sc (.string fc4_1_0), .row 1 (List.map eI fc4_1_1)] 0]]] = some ([], [.ow 1 (List.map eI r)])) {data_0 : (List Int)} {a_1 : Int} {m_2 : Int} {b_3 : Int} {r : (List Int)} (h : slices_symMergeCmpFunc_int64_F self data_0 a_1 m_2 b_3 (fun b0 b1 => impl_RankedFeatures_c1 b0 b1 fc4_0_0 fc4_1_0 fc4_1_1) = some r) : FL Try.prog cfg 275 [.ow 1 (List.map eI data_0), .im 2 false [.sc (.int .i64 a_1)], .im 2 false [.sc (.int .i64 m_2)], .im 2 false [.sc (.int .i64 b_3)], .im 2 false [.clo 229 [.cp [.row 2 (List.map e_S_Feature fc4_0_0)] 0, .cp [.sc (.string fc4_1_0), .row 1 (List.map eI fc4_1_1)] 0]]] = some ([], [.ow 1 (List.map eI r)]) := by
  unfold slices_symMergeCmpFunc_int64_F at h
  refine FL_goS (A := [(0, .v false [.own 0 0 0]), (1, .v false [.im 2 (.sc (.int .i64 a_1))]), (2, .v false [.im 2 (.sc (.int .i64 m_2))]), (3, .v false [.im 2 (.sc (.int .i64 b_3))]), (4, .v false [.im 2 (.clo 229 [.cp [.row 2 (List.map e_S_Feature fc4_0_0)] 0, .cp [.sc (.string fc4_1_0), .row 1 (List.map eI fc4_1_1)] 0])])]) (B := [(0, some ⟨0, 0, true, false, false, false, [⟨.sh, 0, 0, .row 1 (List.map eI data_0)⟩]⟩), (1, none), (2, none), (3, none), (4, none)]) (nt := 220) rfl rfl Try.func275 rfl rfl rfl rfl ?_
  refine Go.seq ?_
  refine Go.seq ?_
  refine Go.r0 c275 rfl rfl (sq z275 (oMv rfl rfl) <| sq z275 (oMv rfl rfl) <| sq z275 (oBi rfl rfl rfl rfl) <| sq z275 (oBi rfl rfl rfl rfl) <| nl) ?_
  refine Unw.seq ?_
  by_cases hc1 : (w64 (m_2 - a_1)) = 1
  · rw [if_pos hc1] at h
    refine Go.condT rfl (iEq.2 hc1) ?_
    refine Go.seq ?_
    refine Go.r0 c275 rfl rfl (sq z275 (oMv rfl rfl) <| sq z275 (oAsI rfl rfl) <| nl) ?_
    refine Unw.seq ?_
    refine Go.seq ?_
    refine Go.r0 c275 rfl rfl (sq z275 (oMv rfl rfl) <| sq z275 (oAsI rfl rfl) <| nl) ?_
    refine Unw.seq ?_
    refine Go.seq ?_
    refine Go.block ?_
    obtain ⟨o, hl, h⟩ := bs h
    refine Go.lp c275 rfl _ (fun (s : (Int × Int)) => match s with | (i_10_l3, j_11_l3) => mk [(0, .v false [.own 0 0 0]), (1, iv a_1), (4, .v false [.im 2 (.clo 229 [.cp [.row 2 (List.map e_S_Feature fc4_0_0)] 0, .cp [.sc (.string fc4_1_0), .row 1 (List.map eI fc4_1_1)] 0])]), (10, iv i_10_l3), (11, iv j_11_l3)] [(0, some ⟨0, 0, true, false, false, false, [⟨.sh, 0, 0, .row 1 (List.map eI data_0)⟩]⟩)]) (fun (i_10_e0_3 : Int) (p : Ex × St) => p.1 = .exit 0 ∧ p.2.norm ([0, 1, 10], [0]) = mk [(0, .v false [.own 0 0 0]), (1, iv a_1), (10, iv i_10_e0_3)] [(0, some ⟨0, 0, true, false, false, false, [⟨.sh, 0, 0, .row 1 (List.map eI data_0)⟩]⟩)]) hl (by kernel_rfl) ?_ ?_ ?_
    · intro o p hp e
      exact nomatch (hp.1.symm.trans e)
    · rintro ⟨i_10_l3, j_11_l3⟩ o h
      unfold slices_symMergeCmpFunc_int64_l3 at h
      dsimp only at h
      refine Go.seq ?_
      refine Go.seq ?_
      refine Go.r0 c275 rfl rfl (sq z275 (oMv rfl rfl) <| sq z275 (oMv rfl rfl) <| sq z275 (oBi rfl rfl rfl rfl) <| nl) ?_
      refine Unw.seq ?_
      by_cases hc9 : i_10_l3 < j_11_l3
      · rw [if_pos hc9] at h
        refine Go.condT rfl (iDec.2 hc9) ?_
        refine Go.skip ?_
        refine Unw.seq ?_
        refine Go.block ?_
        refine Go.seq ?_
        obtain ⟨x38, hx38, h⟩ := bs h
        refine Go.r0 c275 rfl rfl (sq z275 (oMv rfl rfl) <| sq z275 (oMv rfl rfl) <| sq z275 (oBi rfl rfl rfl rfl) <| sq z275 (oCvI rfl uF3 uF364 rfl) <| sq z275 (oShr rfl hx38 rfl rfl) <| sq z275 (oCvI rfl uF364 uF3 rfl) <| sq z275 (oAsI rfl rfl) <| nl) ?_
        refine Unw.seq ?_
        refine Go.seq ?_
        obtain ⟨x43, hx43, h⟩ := bs h
        obtain ⟨x47, hx47, h⟩ := bs h
        obtain ⟨x49, hx49, h⟩ := bs h
        refine Go.dr c275 rfl rfl rfl rfl (mk [(0, .v false [.own 0 0 0]), (1, iv a_1), (4, .v false [.im 2 (.clo 229 [.cp [.row 2 (List.map e_S_Feature fc4_0_0)] 0, .cp [.sc (.string fc4_1_0), .row 1 (List.map eI fc4_1_1)] 0])]), (10, iv i_10_l3), (11, iv j_11_l3), (12, iv (w64 (x38))), (50, bv (decide (x49 < 0)))] [(0, some ⟨0, 0, true, false, false, false, [⟨.sh, 0, 0, .row 1 (List.map eI data_0)⟩]⟩)]) (sT rfl (dN z275 rfl (oMv rfl rfl)) <| sT rfl (dN z275 rfl (oMv rfl rfl)) <| sT rfl (dN z275 rfl (oMv rfl rfl)) <| sT rfl (dN z275 rfl (oIAO rfl hx43 sF27 rfl rfl rfl rfl)) <| sT rfl (dN z275 rfl (oLdE (cs := [.im 0 _]) rfl tF2 rfl rfl rfl (fun e => nomatch e) (rd_get hx43) rfl rfl)) <| sT rfl (dN z275 rfl (oMv rfl rfl)) <| sT rfl (dN z275 rfl (oMv rfl rfl)) <| sT rfl (dN z275 rfl (oIAO rfl hx47 sF27 rfl rfl rfl rfl)) <| sT rfl (dN z275 rfl (oLdE (cs := [.im 0 _]) rfl tF2 rfl rfl rfl (fun e => nomatch e) (rd_get hx47) rfl rfl)) <| sS (dN z275 rfl (oCa (xs := [.v false [.im 0 _], .v false [.im 0 _], .v false [.im 2 _], .v false [.im 2 _]]) (vs := [(false, [.im 0 _])]) (v := .v false [.im 0 _]) (L_impl_RankedFeatures_c1 hx49) (.inr ⟨_, _, rfl, rfl⟩) rfl kF229_2_2_0_0 rfl (ppC rfl (ppC rfl (ppC rfl (ppC rfl pp0)))) rfl rfl pb0 rfl rfl rfl)) trivial (sT rfl (dN z275 rfl (oBi rfl rfl rfl rfl)) <| sD (by kernel_rfl))) ?_
        refine Unw.seq ?_
        by_cases hc10 : x49 < 0
        · rw [if_pos hc10] at h
          refine Go.condT rfl (iDec.2 hc10) ?_
          refine Go.r0 c275 rfl rfl (sq z275 (oMv rfl rfl) <| sq z275 (oBi rfl rfl rfl rfl) <| sq z275 (oAsI rfl rfl) <| nl) ?_
          refine Unw.blk ?_
          refine Unw.nil ?_
          cases h
          exact ⟨rfl, (by kernel_rfl)⟩
        · rw [if_neg hc10] at h
          refine Go.condF rfl (byF iDec hc10) ?_
          refine Go.r0 c275 rfl rfl (sq z275 (oMv rfl rfl) <| sq z275 (oAsI rfl rfl) <| nl) ?_
          refine Unw.blk ?_
          refine Unw.nil ?_
          cases h
          exact ⟨rfl, (by kernel_rfl)⟩
      · rw [if_neg hc9] at h
        refine Go.condF rfl (byF iDec hc9) ?_
        refine Go.exit ?_
        refine Unw.seqx ?_
        refine Unw.nil ?_
        cases h
        exact ⟨rfl, (by kernel_rfl)⟩
    · rintro ⟨e, st⟩ hp
      obtain ⟨i_10_e0_3, rfl⟩ : ∃ y, y = o := ⟨o, rfl⟩
      obtain ⟨he, hst⟩ := hp
      obtain rfl : e = .exit 0 := he
      refine Unw.blkx ?_
      refine Unw.seq ?_
      refine Go.seq ?_
      refine Go.seq ?_
      refine Go.r1 c275 rfl rfl hst (sq z275 (oMv rfl rfl) <| sq z275 (oAsI rfl rfl) <| nl) ?_
      refine Unw.seq ?_
      refine Go.block ?_
      obtain ⟨o, hl, h⟩ := bs h
      refine Go.lp c275 rfl _ (fun (s : (Int × (List Int))) => match s with | (k_13_l9, data_o0_l9) => mk [(0, .v false [.own 0 0 0]), (10, iv i_10_e0_3), (13, iv k_13_l9)] [(0, some ⟨0, 0, true, false, false, false, [⟨.sh, 0, 0, .row 1 (List.map eI data_o0_l9)⟩]⟩)]) (fun (r2 : (List Int)) (p : Ex × St) => p.1 = .exit 2 ∧ fin Try.prog cfg 275 Try.f275 [.ow 1 (List.map eI data_0), .im 2 false [.sc (.int .i64 a_1)], .im 2 false [.sc (.int .i64 m_2)], .im 2 false [.sc (.int .i64 b_3)], .im 2 false [.clo 229 [.cp [.row 2 (List.map e_S_Feature fc4_0_0)] 0, .cp [.sc (.string fc4_1_0), .row 1 (List.map eI fc4_1_1)] 0]]] p.2 = some ([], [.ow 1 (List.map eI r2)])) hl (by kernel_rfl) ?_ ?_ ?_
      · intro o p hp e
        exact nomatch (hp.1.symm.trans e)
      · rintro ⟨k_13_l9, data_o0_l9⟩ o h
        unfold slices_symMergeCmpFunc_int64_l9 at h
        dsimp only at h
        refine Go.seq ?_
        refine Go.seq ?_
        refine Go.r0 c275 rfl rfl (sq z275 (oMv rfl rfl) <| sq z275 (oMv rfl rfl) <| sq z275 (oBi rfl rfl rfl rfl) <| sq z275 (oBi rfl rfl rfl rfl) <| nl) ?_
        refine Unw.seq ?_
        by_cases hc8 : k_13_l9 < (w64 (i_10_e0_3 - 1))
        · rw [if_pos hc8] at h
          refine Go.condT rfl (iDec.2 hc8) ?_
          refine Go.skip ?_
          refine Unw.seq ?_
          refine Go.seq ?_
          refine Go.block ?_
          obtain ⟨x69, hx69, h⟩ := bs h
          obtain ⟨x73, hx73, h⟩ := bs h
          obtain ⟨x75, hx75, h⟩ := bs h
          obtain ⟨x76, hx76, h⟩ := bs h
          refine Go.dr c275 rfl rfl rfl rfl (mk [(0, .v false [.own 0 0 0]), (10, iv i_10_e0_3), (13, iv k_13_l9)] [(0, some ⟨0, 0, true, false, false, false, [⟨.sh, 0, 0, .row 1 (List.map eI ((data_o0_l9.set k_13_l9.toNat x69).set ((w64 (k_13_l9 + 1)).toNat) x73))⟩]⟩)]) (sT rfl (dN z275 rfl (oMv rfl rfl)) <| sT rfl (dN z275 rfl (oMv rfl rfl)) <| sT rfl (dN z275 rfl (oMv rfl rfl)) <| sT rfl (dN z275 rfl (oMv rfl rfl)) <| sT rfl (dN z275 rfl (oBi rfl rfl rfl rfl)) <| sT rfl (dN z275 rfl (oMv rfl rfl)) <| sT rfl (dN z275 rfl (oMv rfl rfl)) <| sT rfl (dN z275 rfl (oBi rfl rfl rfl rfl)) <| sT rfl (dN z275 rfl (oIAO rfl hx69 sF27 rfl rfl rfl rfl)) <| sT rfl (dN z275 rfl (oLdE (cs := [.im 0 _]) rfl tF2 rfl rfl rfl (fun e => nomatch e) (rd_get hx69) rfl rfl)) <| sT rfl (dN z275 rfl (oMv rfl rfl)) <| sT rfl (dN z275 rfl (oMv rfl rfl)) <| sT rfl (dN z275 rfl (oIAO rfl hx73 sF27 rfl rfl rfl rfl)) <| sT rfl (dN z275 rfl (oLdE (cs := [.im 0 _]) rfl tF2 rfl rfl rfl (fun e => nomatch e) (rd_get hx73) rfl rfl)) <| sT rfl (dN z275 rfl (oIAO rfl hx75 sF27 rfl rfl rfl rfl)) <| sS (dN z275 rfl (oStE (v' := x69) tF2 rfl rfl rfl (fxI fx0) rfl rfl (rd_get hx75) rfl)) trivial (sT rfl (dN z275 rfl (oIAO rfl hx76 sF27 rfl rfl rfl rfl)) <| sS (dN z275 rfl (oStE (v' := x73) tF2 rfl rfl rfl (fxI fx0) rfl rfl (rd_get hx76) rfl)) trivial (sD (by kernel_rfl)))) ?_
          refine Unw.blk ?_
          refine Unw.seq ?_
          refine Go.r0 c275 rfl rfl (sq z275 (oMv rfl rfl) <| sq z275 (oBi rfl rfl rfl rfl) <| sq z275 (oAsI rfl rfl) <| nl) ?_
          refine Unw.nil ?_
          cases h
          exact ⟨rfl, (by kernel_rfl)⟩
        · rw [if_neg hc8] at h
          refine Go.condF rfl (byF iDec hc8) ?_
          refine Go.exit ?_
          refine Unw.seqx ?_
          refine Unw.nil ?_
          cases h
          exact ⟨rfl, (fin_of rfl rF275 rfl (by kernel_rfl))⟩
      · rintro ⟨e, st⟩ hp
        obtain ⟨r2, rfl⟩ : ∃ y, y = o := ⟨o, rfl⟩
        obtain ⟨he, hfin⟩ := hp
        obtain rfl : e = .exit 2 := he
        cases h
        refine Unw.blkx ?_
        refine Unw.seq ?_
        exact Go.ret (Unw.ret (Fin_ret hfin))
  · rw [if_neg hc1] at h
    refine Go.condF rfl (byF iEq hc1) ?_
    refine Go.skip ?_
    refine Unw.seq ?_
    refine Go.seq ?_
    refine Go.seq ?_
    refine Go.r0 c275 rfl rfl (sq z275 (oMv rfl rfl) <| sq z275 (oMv rfl rfl) <| sq z275 (oBi rfl rfl rfl rfl) <| sq z275 (oBi rfl rfl rfl rfl) <| nl) ?_
    refine Unw.seq ?_
    by_cases hc11 : (w64 (b_3 - m_2)) = 1
    · rw [if_pos hc11] at h
      refine Go.condT rfl (iEq.2 hc11) ?_
      refine Go.seq ?_
      refine Go.r0 c275 rfl rfl (sq z275 (oMv rfl rfl) <| sq z275 (oAsI rfl rfl) <| nl) ?_
      refine Unw.seq ?_
      refine Go.seq ?_
      refine Go.r0 c275 rfl rfl (sq z275 (oMv rfl rfl) <| sq z275 (oAsI rfl rfl) <| nl) ?_
      refine Unw.seq ?_
      refine Go.seq ?_
      refine Go.block ?_
      obtain ⟨o, hl, h⟩ := bs h
      refine Go.lp c275 rfl _ (fun (s : (Int × Int)) => match s with | (i_14_l15, j_15_l15) => mk [(0, .v false [.own 0 0 0]), (2, iv m_2), (4, .v false [.im 2 (.clo 229 [.cp [.row 2 (List.map e_S_Feature fc4_0_0)] 0, .cp [.sc (.string fc4_1_0), .row 1 (List.map eI fc4_1_1)] 0])]), (14, iv i_14_l15), (15, iv j_15_l15)] [(0, some ⟨0, 0, true, false, false, false, [⟨.sh, 0, 0, .row 1 (List.map eI data_0)⟩]⟩)]) (fun (i_14_e4_15 : Int) (p : Ex × St) => p.1 = .exit 4 ∧ p.2.norm ([0, 2, 14], [0]) = mk [(0, .v false [.own 0 0 0]), (2, iv m_2), (14, iv i_14_e4_15)] [(0, some ⟨0, 0, true, false, false, false, [⟨.sh, 0, 0, .row 1 (List.map eI data_0)⟩]⟩)]) hl (by kernel_rfl) ?_ ?_ ?_
      · intro o p hp e
        exact nomatch (hp.1.symm.trans e)
      · rintro ⟨i_14_l15, j_15_l15⟩ o h
        unfold slices_symMergeCmpFunc_int64_l15 at h
        dsimp only at h
        refine Go.seq ?_
        refine Go.seq ?_
        refine Go.r0 c275 rfl rfl (sq z275 (oMv rfl rfl) <| sq z275 (oMv rfl rfl) <| sq z275 (oBi rfl rfl rfl rfl) <| nl) ?_
        refine Unw.seq ?_
        by_cases hc19 : i_14_l15 < j_15_l15
        · rw [if_pos hc19] at h
          refine Go.condT rfl (iDec.2 hc19) ?_
          refine Go.skip ?_
          refine Unw.seq ?_
          refine Go.block ?_
          refine Go.seq ?_
          obtain ⟨x90, hx90, h⟩ := bs h
          refine Go.r0 c275 rfl rfl (sq z275 (oMv rfl rfl) <| sq z275 (oMv rfl rfl) <| sq z275 (oBi rfl rfl rfl rfl) <| sq z275 (oCvI rfl uF3 uF364 rfl) <| sq z275 (oShr rfl hx90 rfl rfl) <| sq z275 (oCvI rfl uF364 uF3 rfl) <| sq z275 (oAsI rfl rfl) <| nl) ?_
          refine Unw.seq ?_
          refine Go.seq ?_
          obtain ⟨x95, hx95, h⟩ := bs h
          obtain ⟨x99, hx99, h⟩ := bs h
          obtain ⟨x101, hx101, h⟩ := bs h
          refine Go.dr c275 rfl rfl rfl rfl (mk [(0, .v false [.own 0 0 0]), (2, iv m_2), (4, .v false [.im 2 (.clo 229 [.cp [.row 2 (List.map e_S_Feature fc4_0_0)] 0, .cp [.sc (.string fc4_1_0), .row 1 (List.map eI fc4_1_1)] 0])]), (14, iv i_14_l15), (15, iv j_15_l15), (16, iv (w64 (x90))), (103, bv (!(decide (x101 < 0))))] [(0, some ⟨0, 0, true, false, false, false, [⟨.sh, 0, 0, .row 1 (List.map eI data_0)⟩]⟩)]) (sT rfl (dN z275 rfl (oMv rfl rfl)) <| sT rfl (dN z275 rfl (oMv rfl rfl)) <| sT rfl (dN z275 rfl (oMv rfl rfl)) <| sT rfl (dN z275 rfl (oIAO rfl hx95 sF27 rfl rfl rfl rfl)) <| sT rfl (dN z275 rfl (oLdE (cs := [.im 0 _]) rfl tF2 rfl rfl rfl (fun e => nomatch e) (rd_get hx95) rfl rfl)) <| sT rfl (dN z275 rfl (oMv rfl rfl)) <| sT rfl (dN z275 rfl (oMv rfl rfl)) <| sT rfl (dN z275 rfl (oIAO rfl hx99 sF27 rfl rfl rfl rfl)) <| sT rfl (dN z275 rfl (oLdE (cs := [.im 0 _]) rfl tF2 rfl rfl rfl (fun e => nomatch e) (rd_get hx99) rfl rfl)) <| sS (dN z275 rfl (oCa (xs := [.v false [.im 0 _], .v false [.im 0 _], .v false [.im 2 _], .v false [.im 2 _]]) (vs := [(false, [.im 0 _])]) (v := .v false [.im 0 _]) (L_impl_RankedFeatures_c1 hx101) (.inr ⟨_, _, rfl, rfl⟩) rfl kF229_2_2_0_0 rfl (ppC rfl (ppC rfl (ppC rfl (ppC rfl pp0)))) rfl rfl pb0 rfl rfl rfl)) trivial (sT rfl (dN z275 rfl (oBi rfl rfl rfl rfl)) <| sT rfl (dN z275 rfl (oUn rfl rfl rfl)) <| sD (by kernel_rfl))) ?_
          refine Unw.seq ?_
          by_cases hc20 : x101 < 0
          · rw [if_pos hc20] at h
            refine Go.condF rfl (nF (iDec.2 hc20)) ?_
            refine Go.r0 c275 rfl rfl (sq z275 (oMv rfl rfl) <| sq z275 (oAsI rfl rfl) <| nl) ?_
            refine Unw.blk ?_
            refine Unw.nil ?_
            cases h
            exact ⟨rfl, (by kernel_rfl)⟩
          · rw [if_neg hc20] at h
            refine Go.condT rfl (nT (byF iDec hc20)) ?_
            refine Go.r0 c275 rfl rfl (sq z275 (oMv rfl rfl) <| sq z275 (oBi rfl rfl rfl rfl) <| sq z275 (oAsI rfl rfl) <| nl) ?_
            refine Unw.blk ?_
            refine Unw.nil ?_
            cases h
            exact ⟨rfl, (by kernel_rfl)⟩
        · rw [if_neg hc19] at h
          refine Go.condF rfl (byF iDec hc19) ?_
          refine Go.exit ?_
          refine Unw.seqx ?_
          refine Unw.nil ?_
          cases h
          exact ⟨rfl, (by kernel_rfl)⟩
      · rintro ⟨e, st⟩ hp
        obtain ⟨i_14_e4_15, rfl⟩ : ∃ y, y = o := ⟨o, rfl⟩
        obtain ⟨he, hst⟩ := hp
        obtain rfl : e = .exit 4 := he
        refine Unw.blkx ?_
        refine Unw.seq ?_
        refine Go.seq ?_
        refine Go.seq ?_
        refine Go.r1 c275 rfl rfl hst (sq z275 (oMv rfl rfl) <| sq z275 (oAsI rfl rfl) <| nl) ?_
        refine Unw.seq ?_
        refine Go.block ?_
        obtain ⟨o, hl, h⟩ := bs h
        refine Go.lp c275 rfl _ (fun (s : (Int × (List Int))) => match s with | (k_17_l21, data_o0_l21) => mk [(0, .v false [.own 0 0 0]), (14, iv i_14_e4_15), (17, iv k_17_l21)] [(0, some ⟨0, 0, true, false, false, false, [⟨.sh, 0, 0, .row 1 (List.map eI data_o0_l21)⟩]⟩)]) (fun (r2 : (List Int)) (p : Ex × St) => p.1 = .exit 6 ∧ fin Try.prog cfg 275 Try.f275 [.ow 1 (List.map eI data_0), .im 2 false [.sc (.int .i64 a_1)], .im 2 false [.sc (.int .i64 m_2)], .im 2 false [.sc (.int .i64 b_3)], .im 2 false [.clo 229 [.cp [.row 2 (List.map e_S_Feature fc4_0_0)] 0, .cp [.sc (.string fc4_1_0), .row 1 (List.map eI fc4_1_1)] 0]]] p.2 = some ([], [.ow 1 (List.map eI r2)])) hl (by kernel_rfl) ?_ ?_ ?_
        · intro o p hp e
          exact nomatch (hp.1.symm.trans e)
        · rintro ⟨k_17_l21, data_o0_l21⟩ o h
          unfold slices_symMergeCmpFunc_int64_l21 at h
          dsimp only at h
          refine Go.seq ?_
          refine Go.seq ?_
          refine Go.r0 c275 rfl rfl (sq z275 (oMv rfl rfl) <| sq z275 (oMv rfl rfl) <| sq z275 (oBi rfl rfl rfl rfl) <| nl) ?_
          refine Unw.seq ?_
          by_cases hc18 : k_17_l21 > i_14_e4_15
          · rw [if_pos hc18] at h
            refine Go.condT rfl (iDec.2 hc18) ?_
            refine Go.skip ?_
            refine Unw.seq ?_
            refine Go.seq ?_
            refine Go.block ?_
            obtain ⟨x121, hx121, h⟩ := bs h
            obtain ⟨x125, hx125, h⟩ := bs h
            obtain ⟨x127, hx127, h⟩ := bs h
            obtain ⟨x128, hx128, h⟩ := bs h
            refine Go.dr c275 rfl rfl rfl rfl (mk [(0, .v false [.own 0 0 0]), (14, iv i_14_e4_15), (17, iv k_17_l21)] [(0, some ⟨0, 0, true, false, false, false, [⟨.sh, 0, 0, .row 1 (List.map eI ((data_o0_l21.set k_17_l21.toNat x121).set ((w64 (k_17_l21 - 1)).toNat) x125))⟩]⟩)]) (sT rfl (dN z275 rfl (oMv rfl rfl)) <| sT rfl (dN z275 rfl (oMv rfl rfl)) <| sT rfl (dN z275 rfl (oMv rfl rfl)) <| sT rfl (dN z275 rfl (oMv rfl rfl)) <| sT rfl (dN z275 rfl (oBi rfl rfl rfl rfl)) <| sT rfl (dN z275 rfl (oMv rfl rfl)) <| sT rfl (dN z275 rfl (oMv rfl rfl)) <| sT rfl (dN z275 rfl (oBi rfl rfl rfl rfl)) <| sT rfl (dN z275 rfl (oIAO rfl hx121 sF27 rfl rfl rfl rfl)) <| sT rfl (dN z275 rfl (oLdE (cs := [.im 0 _]) rfl tF2 rfl rfl rfl (fun e => nomatch e) (rd_get hx121) rfl rfl)) <| sT rfl (dN z275 rfl (oMv rfl rfl)) <| sT rfl (dN z275 rfl (oMv rfl rfl)) <| sT rfl (dN z275 rfl (oIAO rfl hx125 sF27 rfl rfl rfl rfl)) <| sT rfl (dN z275 rfl (oLdE (cs := [.im 0 _]) rfl tF2 rfl rfl rfl (fun e => nomatch e) (rd_get hx125) rfl rfl)) <| sT rfl (dN z275 rfl (oIAO rfl hx127 sF27 rfl rfl rfl rfl)) <| sS (dN z275 rfl (oStE (v' := x121) tF2 rfl rfl rfl (fxI fx0) rfl rfl (rd_get hx127) rfl)) trivial (sT rfl (dN z275 rfl (oIAO rfl hx128 sF27 rfl rfl rfl rfl)) <| sS (dN z275 rfl (oStE (v' := x125) tF2 rfl rfl rfl (fxI fx0) rfl rfl (rd_get hx128) rfl)) trivial (sD (by kernel_rfl)))) ?_
            refine Unw.blk ?_
            refine Unw.seq ?_
            refine Go.r0 c275 rfl rfl (sq z275 (oMv rfl rfl) <| sq z275 (oBi rfl rfl rfl rfl) <| sq z275 (oAsI rfl rfl) <| nl) ?_
            refine Unw.nil ?_
            cases h
            exact ⟨rfl, (by kernel_rfl)⟩
          · rw [if_neg hc18] at h
            refine Go.condF rfl (byF iDec hc18) ?_
            refine Go.exit ?_
            refine Unw.seqx ?_
            refine Unw.nil ?_
            cases h
            exact ⟨rfl, (fin_of rfl rF275 rfl (by kernel_rfl))⟩
        · rintro ⟨e, st⟩ hp
          obtain ⟨r2, rfl⟩ : ∃ y, y = o := ⟨o, rfl⟩
          obtain ⟨he, hfin⟩ := hp
          obtain rfl : e = .exit 6 := he
          cases h
          refine Unw.blkx ?_
          refine Unw.seq ?_
          exact Go.ret (Unw.ret (Fin_ret hfin))
    · rw [if_neg hc11] at h
      refine Go.condF rfl (byF iEq hc11) ?_
      refine Go.skip ?_
      refine Unw.seq ?_
      refine Go.seq ?_
      obtain ⟨x133, hx133, h⟩ := bs h
      refine Go.r0 c275 rfl rfl (sq z275 (oMv rfl rfl) <| sq z275 (oMv rfl rfl) <| sq z275 (oBi rfl rfl rfl rfl) <| sq z275 (oCvI rfl uF3 uF364 rfl) <| sq z275 (oShr rfl hx133 rfl rfl) <| sq z275 (oCvI rfl uF364 uF3 rfl) <| sq z275 (oAsI rfl rfl) <| nl) ?_
      refine Unw.seq ?_
      refine Go.seq ?_
      refine Go.r0 c275 rfl rfl (sq z275 (oMv rfl rfl) <| sq z275 (oMv rfl rfl) <| sq z275 (oBi rfl rfl rfl rfl) <| sq z275 (oAsI rfl rfl) <| nl) ?_
      refine Unw.seq ?_
      refine Go.seq ?_
      refine Go.r0 c275 rfl rfl (sq z275 (oAsI rfl rfl) <| sq z275 (oAsI rfl rfl) <| nl) ?_
      refine Unw.seq ?_
      refine Go.seq ?_
      refine Go.seq ?_
      refine Go.r0 c275 rfl rfl (sq z275 (oMv rfl rfl) <| sq z275 (oMv rfl rfl) <| sq z275 (oBi rfl rfl rfl rfl) <| nl) ?_
      refine Unw.seq ?_
      refine Go.join (fun st => ∃ start_20_r32, ∃ r_21_r32, slices_symMergeCmpFunc_int64_k32 self a_1 b_3 (fun b0 b1 => impl_RankedFeatures_c1 b0 b1 fc4_0_0 fc4_1_0 fc4_1_1) data_0 m_2 x133 start_20_r32 r_21_r32 = some r ∧ st.norm ([0, 1, 2, 3, 4, 18, 19, 20, 21], [0]) = mk [(0, .v false [.own 0 0 0]), (1, iv a_1), (2, iv m_2), (3, iv b_3), (4, .v false [.im 2 (.clo 229 [.cp [.row 2 (List.map e_S_Feature fc4_0_0)] 0, .cp [.sc (.string fc4_1_0), .row 1 (List.map eI fc4_1_1)] 0])]), (18, iv (w64 (x133))), (19, iv (w64 ((w64 (x133)) + m_2))), (20, iv start_20_r32), (21, iv r_21_r32)] [(0, some ⟨0, 0, true, false, false, false, [⟨.sh, 0, 0, .row 1 (List.map eI data_0)⟩]⟩)]) ?_ ?_
      · rintro st ⟨start_20_r32, r_21_r32, h, hst⟩
        unfold slices_symMergeCmpFunc_int64_k32 at h
        refine Unw.seq ?_
        refine Go.seq ?_
        refine Go.r1 c275 rfl rfl hst (sq z275 (oMv rfl rfl) <| sq z275 (oBi rfl rfl rfl rfl) <| sq z275 (oAsI rfl rfl) <| nl) ?_
        refine Unw.seq ?_
        refine Go.seq ?_
        refine Go.block ?_
        obtain ⟨o, hl, h⟩ := bs h
        refine Go.lp c275 rfl _ (fun (s : (Int × Int)) => match s with | (start_20_l33, r_21_l33) => mk [(0, .v false [.own 0 0 0]), (1, iv a_1), (2, iv m_2), (3, iv b_3), (4, .v false [.im 2 (.clo 229 [.cp [.row 2 (List.map e_S_Feature fc4_0_0)] 0, .cp [.sc (.string fc4_1_0), .row 1 (List.map eI fc4_1_1)] 0])]), (18, iv (w64 (x133))), (19, iv (w64 ((w64 (x133)) + m_2))), (20, iv start_20_l33), (21, iv r_21_l33), (22, iv (w64 ((w64 ((w64 (x133)) + m_2)) - 1)))] [(0, some ⟨0, 0, true, false, false, false, [⟨.sh, 0, 0, .row 1 (List.map eI data_0)⟩]⟩)]) (fun (start_20_e8_33 : Int) (p : Ex × St) => p.1 = .exit 8 ∧ p.2.norm ([0, 1, 2, 3, 4, 18, 19, 20], [0]) = mk [(0, .v false [.own 0 0 0]), (1, iv a_1), (2, iv m_2), (3, iv b_3), (4, .v false [.im 2 (.clo 229 [.cp [.row 2 (List.map e_S_Feature fc4_0_0)] 0, .cp [.sc (.string fc4_1_0), .row 1 (List.map eI fc4_1_1)] 0])]), (18, iv (w64 (x133))), (19, iv (w64 ((w64 (x133)) + m_2))), (20, iv start_20_e8_33)] [(0, some ⟨0, 0, true, false, false, false, [⟨.sh, 0, 0, .row 1 (List.map eI data_0)⟩]⟩)]) hl (by kernel_rfl) ?_ ?_ ?_
        · intro o p hp e
          exact nomatch (hp.1.symm.trans e)
        · rintro ⟨start_20_l33, r_21_l33⟩ o h
          unfold slices_symMergeCmpFunc_int64_l33 at h
          dsimp only at h
          refine Go.seq ?_
          refine Go.seq ?_
          refine Go.r0 c275 rfl rfl (sq z275 (oMv rfl rfl) <| sq z275 (oMv rfl rfl) <| sq z275 (oBi rfl rfl rfl rfl) <| nl) ?_
          refine Unw.seq ?_
          by_cases hc36 : start_20_l33 < r_21_l33
          · rw [if_pos hc36] at h
            refine Go.condT rfl (iDec.2 hc36) ?_
            refine Go.skip ?_
            refine Unw.seq ?_
            refine Go.block ?_
            refine Go.seq ?_
            obtain ⟨x156, hx156, h⟩ := bs h
            refine Go.r0 c275 rfl rfl (sq z275 (oMv rfl rfl) <| sq z275 (oMv rfl rfl) <| sq z275 (oBi rfl rfl rfl rfl) <| sq z275 (oCvI rfl uF3 uF364 rfl) <| sq z275 (oShr rfl hx156 rfl rfl) <| sq z275 (oCvI rfl uF364 uF3 rfl) <| sq z275 (oAsI rfl rfl) <| nl) ?_
            refine Unw.seq ?_
            refine Go.seq ?_
            obtain ⟨x163, hx163, h⟩ := bs h
            obtain ⟨x167, hx167, h⟩ := bs h
            obtain ⟨x169, hx169, h⟩ := bs h
            refine Go.dr c275 rfl rfl rfl rfl (mk [(0, .v false [.own 0 0 0]), (1, iv a_1), (2, iv m_2), (3, iv b_3), (4, .v false [.im 2 (.clo 229 [.cp [.row 2 (List.map e_S_Feature fc4_0_0)] 0, .cp [.sc (.string fc4_1_0), .row 1 (List.map eI fc4_1_1)] 0])]), (18, iv (w64 (x133))), (19, iv (w64 ((w64 (x133)) + m_2))), (20, iv start_20_l33), (21, iv r_21_l33), (22, iv (w64 ((w64 ((w64 (x133)) + m_2)) - 1))), (23, iv (w64 (x156))), (171, bv (!(decide (x169 < 0))))] [(0, some ⟨0, 0, true, false, false, false, [⟨.sh, 0, 0, .row 1 (List.map eI data_0)⟩]⟩)]) (sT rfl (dN z275 rfl (oMv rfl rfl)) <| sT rfl (dN z275 rfl (oMv rfl rfl)) <| sT rfl (dN z275 rfl (oMv rfl rfl)) <| sT rfl (dN z275 rfl (oMv rfl rfl)) <| sT rfl (dN z275 rfl (oBi rfl rfl rfl rfl)) <| sT rfl (dN z275 rfl (oIAO rfl hx163 sF27 rfl rfl rfl rfl)) <| sT rfl (dN z275 rfl (oLdE (cs := [.im 0 _]) rfl tF2 rfl rfl rfl (fun e => nomatch e) (rd_get hx163) rfl rfl)) <| sT rfl (dN z275 rfl (oMv rfl rfl)) <| sT rfl (dN z275 rfl (oMv rfl rfl)) <| sT rfl (dN z275 rfl (oIAO rfl hx167 sF27 rfl rfl rfl rfl)) <| sT rfl (dN z275 rfl (oLdE (cs := [.im 0 _]) rfl tF2 rfl rfl rfl (fun e => nomatch e) (rd_get hx167) rfl rfl)) <| sS (dN z275 rfl (oCa (xs := [.v false [.im 0 _], .v false [.im 0 _], .v false [.im 2 _], .v false [.im 2 _]]) (vs := [(false, [.im 0 _])]) (v := .v false [.im 0 _]) (L_impl_RankedFeatures_c1 hx169) (.inr ⟨_, _, rfl, rfl⟩) rfl kF229_2_2_0_0 rfl (ppC rfl (ppC rfl (ppC rfl (ppC rfl pp0)))) rfl rfl pb0 rfl rfl rfl)) trivial (sT rfl (dN z275 rfl (oBi rfl rfl rfl rfl)) <| sT rfl (dN z275 rfl (oUn rfl rfl rfl)) <| sD (by kernel_rfl))) ?_
            refine Unw.seq ?_
            by_cases hc37 : x169 < 0
            · rw [if_pos hc37] at h
              refine Go.condF rfl (nF (iDec.2 hc37)) ?_
              refine Go.r0 c275 rfl rfl (sq z275 (oMv rfl rfl) <| sq z275 (oAsI rfl rfl) <| nl) ?_
              refine Unw.blk ?_
              refine Unw.nil ?_
              cases h
              exact ⟨rfl, (by kernel_rfl)⟩
            · rw [if_neg hc37] at h
              refine Go.condT rfl (nT (byF iDec hc37)) ?_
              refine Go.r0 c275 rfl rfl (sq z275 (oMv rfl rfl) <| sq z275 (oBi rfl rfl rfl rfl) <| sq z275 (oAsI rfl rfl) <| nl) ?_
              refine Unw.blk ?_
              refine Unw.nil ?_
              cases h
              exact ⟨rfl, (by kernel_rfl)⟩
          · rw [if_neg hc36] at h
            refine Go.condF rfl (byF iDec hc36) ?_
            refine Go.exit ?_
            refine Unw.seqx ?_
            refine Unw.nil ?_
            cases h
            exact ⟨rfl, (by kernel_rfl)⟩
        · rintro ⟨e, st⟩ hp
          obtain ⟨start_20_e8_33, rfl⟩ : ∃ y, y = o := ⟨o, rfl⟩
          obtain ⟨he, hst⟩ := hp
          obtain rfl : e = .exit 8 := he
          refine Unw.blkx ?_
          refine Unw.seq ?_
          refine Go.seq ?_
          refine Go.r1 c275 rfl rfl hst (sq z275 (oMv rfl rfl) <| sq z275 (oMv rfl rfl) <| sq z275 (oBi rfl rfl rfl rfl) <| sq z275 (oAsI rfl rfl) <| nl) ?_
          refine Unw.seq ?_
          refine Go.seq ?_
          refine Go.seq ?_
          refine Go.rX c275 rfl rfl rfl (mk [(0, .v false [.own 0 0 0]), (1, iv a_1), (2, iv m_2), (3, iv b_3), (4, .v false [.im 2 (.clo 229 [.cp [.row 2 (List.map e_S_Feature fc4_0_0)] 0, .cp [.sc (.string fc4_1_0), .row 1 (List.map eI fc4_1_1)] 0])]), (18, iv (w64 (x133))), (20, iv start_20_e8_33), (24, iv (w64 ((w64 ((w64 (x133)) + m_2)) - start_20_e8_33))), (185, bv ((decide (start_20_e8_33 < m_2)) && (decide (m_2 < (w64 ((w64 ((w64 (x133)) + m_2)) - start_20_e8_33))))))] [(0, some ⟨0, 0, true, false, false, false, [⟨.sh, 0, 0, .row 1 (List.map eI data_0)⟩]⟩)]) ?_ ?_
          · by_cases hc26 : start_20_e8_33 < m_2
            · exact ⟨_, sq z275 (oMv rfl rfl) <| sq z275 (oMv rfl rfl) <| sq z275 (oBi rfl rfl rfl rfl) <| sq z275 (oMv rfl rfl) <| sgT z275 rfl rfl (iDec.2 hc26) (oMv rfl rfl) <| sgT z275 rfl rfl (iDec.2 hc26) (oMv rfl rfl) <| sgT z275 rfl rfl (iDec.2 hc26) (oBi rfl rfl rfl rfl) <| sq z275 (oPkT rfl rfl (iDec.2 hc26) rfl) <| nl, (Eq.trans (b := (fun t_185_m39 : Bool => mk [(0, .v false [.own 0 0 0]), (1, iv a_1), (2, iv m_2), (3, iv b_3), (4, .v false [.im 2 (.clo 229 [.cp [.row 2 (List.map e_S_Feature fc4_0_0)] 0, .cp [.sc (.string fc4_1_0), .row 1 (List.map eI fc4_1_1)] 0])]), (18, iv (w64 (x133))), (20, iv start_20_e8_33), (24, iv (w64 ((w64 ((w64 (x133)) + m_2)) - start_20_e8_33))), (185, bv t_185_m39)] [(0, some ⟨0, 0, true, false, false, false, [⟨.sh, 0, 0, .row 1 (List.map eI data_0)⟩]⟩)]) (decide (m_2 < (w64 ((w64 ((w64 (x133)) + m_2)) - start_20_e8_33))))) (by kernel_rfl) (congrArg (fun t_185_m39 : Bool => mk [(0, .v false [.own 0 0 0]), (1, iv a_1), (2, iv m_2), (3, iv b_3), (4, .v false [.im 2 (.clo 229 [.cp [.row 2 (List.map e_S_Feature fc4_0_0)] 0, .cp [.sc (.string fc4_1_0), .row 1 (List.map eI fc4_1_1)] 0])]), (18, iv (w64 (x133))), (20, iv start_20_e8_33), (24, iv (w64 ((w64 ((w64 (x133)) + m_2)) - start_20_e8_33))), (185, bv t_185_m39)] [(0, some ⟨0, 0, true, false, false, false, [⟨.sh, 0, 0, .row 1 (List.map eI data_0)⟩]⟩)]) (by first | rfl | (simp [(iDec.2 hc26)]; done) | (simp [(iDec.2 hc26)]; omega))))⟩
            · exact ⟨_, sq z275 (oMv rfl rfl) <| sq z275 (oMv rfl rfl) <| sq z275 (oBi rfl rfl rfl rfl) <| sq z275 (oMv rfl rfl) <| sgF rfl rfl (byF iDec hc26) rfl <| sgF rfl rfl (byF iDec hc26) rfl <| sgF rfl rfl (byF iDec hc26) rfl <| sq z275 (oPkF rfl rfl (byF iDec hc26) rfl) <| nl, (Eq.trans (b := (fun t_185_m39 : Bool => mk [(0, .v false [.own 0 0 0]), (1, iv a_1), (2, iv m_2), (3, iv b_3), (4, .v false [.im 2 (.clo 229 [.cp [.row 2 (List.map e_S_Feature fc4_0_0)] 0, .cp [.sc (.string fc4_1_0), .row 1 (List.map eI fc4_1_1)] 0])]), (18, iv (w64 (x133))), (20, iv start_20_e8_33), (24, iv (w64 ((w64 ((w64 (x133)) + m_2)) - start_20_e8_33))), (185, bv t_185_m39)] [(0, some ⟨0, 0, true, false, false, false, [⟨.sh, 0, 0, .row 1 (List.map eI data_0)⟩]⟩)]) false) (by kernel_rfl) (congrArg (fun t_185_m39 : Bool => mk [(0, .v false [.own 0 0 0]), (1, iv a_1), (2, iv m_2), (3, iv b_3), (4, .v false [.im 2 (.clo 229 [.cp [.row 2 (List.map e_S_Feature fc4_0_0)] 0, .cp [.sc (.string fc4_1_0), .row 1 (List.map eI fc4_1_1)] 0])]), (18, iv (w64 (x133))), (20, iv start_20_e8_33), (24, iv (w64 ((w64 ((w64 (x133)) + m_2)) - start_20_e8_33))), (185, bv t_185_m39)] [(0, some ⟨0, 0, true, false, false, false, [⟨.sh, 0, 0, .row 1 (List.map eI data_0)⟩]⟩)]) (by first | rfl | (simp [(byF iDec hc26)]; done) | (simp [(byF iDec hc26)]; omega))))⟩
          · refine Unw.seq ?_
            refine Go.join (fun st => ∃ data_o0_r41, slices_symMergeCmpFunc_int64_k41 self a_1 b_3 (fun b0 b1 => impl_RankedFeatures_c1 b0 b1 fc4_0_0 fc4_1_0 fc4_1_1) m_2 start_20_e8_33 x133 data_o0_r41 = some r ∧ st.norm ([0, 1, 3, 4, 18, 20, 24], [0]) = mk [(0, .v false [.own 0 0 0]), (1, iv a_1), (3, iv b_3), (4, .v false [.im 2 (.clo 229 [.cp [.row 2 (List.map e_S_Feature fc4_0_0)] 0, .cp [.sc (.string fc4_1_0), .row 1 (List.map eI fc4_1_1)] 0])]), (18, iv (w64 (x133))), (20, iv start_20_e8_33), (24, iv (w64 ((w64 ((w64 (x133)) + m_2)) - start_20_e8_33)))] [(0, some ⟨0, 0, true, false, false, false, [⟨.sh, 0, 0, .row 1 (List.map eI data_o0_r41)⟩]⟩)]) ?_ ?_
            · rintro st ⟨data_o0_r41, h, hst⟩
              unfold slices_symMergeCmpFunc_int64_k41 at h
              refine Unw.seq ?_
              refine Go.seq ?_
              refine Go.seq ?_
              refine Go.rX c275 rfl rfl hst (mk [(0, .v false [.own 0 0 0]), (1, iv a_1), (3, iv b_3), (4, .v false [.im 2 (.clo 229 [.cp [.row 2 (List.map e_S_Feature fc4_0_0)] 0, .cp [.sc (.string fc4_1_0), .row 1 (List.map eI fc4_1_1)] 0])]), (18, iv (w64 (x133))), (20, iv start_20_e8_33), (24, iv (w64 ((w64 ((w64 (x133)) + m_2)) - start_20_e8_33))), (199, bv ((decide (a_1 < start_20_e8_33)) && (decide (start_20_e8_33 < (w64 (x133))))))] [(0, some ⟨0, 0, true, false, false, false, [⟨.sh, 0, 0, .row 1 (List.map eI data_o0_r41)⟩]⟩)]) ?_ ?_
              · by_cases hc28 : a_1 < start_20_e8_33
                · exact ⟨_, sq z275 (oMv rfl rfl) <| sq z275 (oMv rfl rfl) <| sq z275 (oBi rfl rfl rfl rfl) <| sq z275 (oMv rfl rfl) <| sgT z275 rfl rfl (iDec.2 hc28) (oMv rfl rfl) <| sgT z275 rfl rfl (iDec.2 hc28) (oMv rfl rfl) <| sgT z275 rfl rfl (iDec.2 hc28) (oBi rfl rfl rfl rfl) <| sq z275 (oPkT rfl rfl (iDec.2 hc28) rfl) <| nl, (Eq.trans (b := (fun t_199_m41 : Bool => mk [(0, .v false [.own 0 0 0]), (1, iv a_1), (3, iv b_3), (4, .v false [.im 2 (.clo 229 [.cp [.row 2 (List.map e_S_Feature fc4_0_0)] 0, .cp [.sc (.string fc4_1_0), .row 1 (List.map eI fc4_1_1)] 0])]), (18, iv (w64 (x133))), (20, iv start_20_e8_33), (24, iv (w64 ((w64 ((w64 (x133)) + m_2)) - start_20_e8_33))), (199, bv t_199_m41)] [(0, some ⟨0, 0, true, false, false, false, [⟨.sh, 0, 0, .row 1 (List.map eI data_o0_r41)⟩]⟩)]) (decide (start_20_e8_33 < (w64 (x133))))) (by kernel_rfl) (congrArg (fun t_199_m41 : Bool => mk [(0, .v false [.own 0 0 0]), (1, iv a_1), (3, iv b_3), (4, .v false [.im 2 (.clo 229 [.cp [.row 2 (List.map e_S_Feature fc4_0_0)] 0, .cp [.sc (.string fc4_1_0), .row 1 (List.map eI fc4_1_1)] 0])]), (18, iv (w64 (x133))), (20, iv start_20_e8_33), (24, iv (w64 ((w64 ((w64 (x133)) + m_2)) - start_20_e8_33))), (199, bv t_199_m41)] [(0, some ⟨0, 0, true, false, false, false, [⟨.sh, 0, 0, .row 1 (List.map eI data_o0_r41)⟩]⟩)]) (by first | rfl | (simp [(iDec.2 hc28)]; done) | (simp [(iDec.2 hc28)]; omega))))⟩
                · exact ⟨_, sq z275 (oMv rfl rfl) <| sq z275 (oMv rfl rfl) <| sq z275 (oBi rfl rfl rfl rfl) <| sq z275 (oMv rfl rfl) <| sgF rfl rfl (byF iDec hc28) rfl <| sgF rfl rfl (byF iDec hc28) rfl <| sgF rfl rfl (byF iDec hc28) rfl <| sq z275 (oPkF rfl rfl (byF iDec hc28) rfl) <| nl, (Eq.trans (b := (fun t_199_m41 : Bool => mk [(0, .v false [.own 0 0 0]), (1, iv a_1), (3, iv b_3), (4, .v false [.im 2 (.clo 229 [.cp [.row 2 (List.map e_S_Feature fc4_0_0)] 0, .cp [.sc (.string fc4_1_0), .row 1 (List.map eI fc4_1_1)] 0])]), (18, iv (w64 (x133))), (20, iv start_20_e8_33), (24, iv (w64 ((w64 ((w64 (x133)) + m_2)) - start_20_e8_33))), (199, bv t_199_m41)] [(0, some ⟨0, 0, true, false, false, false, [⟨.sh, 0, 0, .row 1 (List.map eI data_o0_r41)⟩]⟩)]) false) (by kernel_rfl) (congrArg (fun t_199_m41 : Bool => mk [(0, .v false [.own 0 0 0]), (1, iv a_1), (3, iv b_3), (4, .v false [.im 2 (.clo 229 [.cp [.row 2 (List.map e_S_Feature fc4_0_0)] 0, .cp [.sc (.string fc4_1_0), .row 1 (List.map eI fc4_1_1)] 0])]), (18, iv (w64 (x133))), (20, iv start_20_e8_33), (24, iv (w64 ((w64 ((w64 (x133)) + m_2)) - start_20_e8_33))), (199, bv t_199_m41)] [(0, some ⟨0, 0, true, false, false, false, [⟨.sh, 0, 0, .row 1 (List.map eI data_o0_r41)⟩]⟩)]) (by first | rfl | (simp [(byF iDec hc28)]; done) | (simp [(byF iDec hc28)]; omega))))⟩
              · refine Unw.seq ?_
                refine Go.join (fun st => ∃ data_o0_r43, slices_symMergeCmpFunc_int64_k43 self b_3 (fun b0 b1 => impl_RankedFeatures_c1 b0 b1 fc4_0_0 fc4_1_0 fc4_1_1) m_2 start_20_e8_33 x133 data_o0_r43 = some r ∧ st.norm ([0, 3, 4, 18, 24], [0]) = mk [(0, .v false [.own 0 0 0]), (3, iv b_3), (4, .v false [.im 2 (.clo 229 [.cp [.row 2 (List.map e_S_Feature fc4_0_0)] 0, .cp [.sc (.string fc4_1_0), .row 1 (List.map eI fc4_1_1)] 0])]), (18, iv (w64 (x133))), (24, iv (w64 ((w64 ((w64 (x133)) + m_2)) - start_20_e8_33)))] [(0, some ⟨0, 0, true, false, false, false, [⟨.sh, 0, 0, .row 1 (List.map eI data_o0_r43)⟩]⟩)]) ?_ ?_
                · rintro st ⟨data_o0_r43, h, hst⟩
                  unfold slices_symMergeCmpFunc_int64_k43 at h
                  refine Unw.seq ?_
                  refine Go.seq ?_
                  refine Go.rX c275 rfl rfl hst (mk [(0, .v false [.own 0 0 0]), (3, iv b_3), (4, .v false [.im 2 (.clo 229 [.cp [.row 2 (List.map e_S_Feature fc4_0_0)] 0, .cp [.sc (.string fc4_1_0), .row 1 (List.map eI fc4_1_1)] 0])]), (18, iv (w64 (x133))), (24, iv (w64 ((w64 ((w64 (x133)) + m_2)) - start_20_e8_33))), (213, bv ((decide ((w64 (x133)) < (w64 ((w64 ((w64 (x133)) + m_2)) - start_20_e8_33)))) && (decide ((w64 ((w64 ((w64 (x133)) + m_2)) - start_20_e8_33)) < b_3))))] [(0, some ⟨0, 0, true, false, false, false, [⟨.sh, 0, 0, .row 1 (List.map eI data_o0_r43)⟩]⟩)]) ?_ ?_
                  · by_cases hc30 : (w64 (x133)) < (w64 ((w64 ((w64 (x133)) + m_2)) - start_20_e8_33))
                    · exact ⟨_, sq z275 (oMv rfl rfl) <| sq z275 (oMv rfl rfl) <| sq z275 (oBi rfl rfl rfl rfl) <| sq z275 (oMv rfl rfl) <| sgT z275 rfl rfl (iDec.2 hc30) (oMv rfl rfl) <| sgT z275 rfl rfl (iDec.2 hc30) (oMv rfl rfl) <| sgT z275 rfl rfl (iDec.2 hc30) (oBi rfl rfl rfl rfl) <| sq z275 (oPkT rfl rfl (iDec.2 hc30) rfl) <| nl, (Eq.trans (b := (fun t_213_m43 : Bool => mk [(0, .v false [.own 0 0 0]), (3, iv b_3), (4, .v false [.im 2 (.clo 229 [.cp [.row 2 (List.map e_S_Feature fc4_0_0)] 0, .cp [.sc (.string fc4_1_0), .row 1 (List.map eI fc4_1_1)] 0])]), (18, iv (w64 (x133))), (24, iv (w64 ((w64 ((w64 (x133)) + m_2)) - start_20_e8_33))), (213, bv t_213_m43)] [(0, some ⟨0, 0, true, false, false, false, [⟨.sh, 0, 0, .row 1 (List.map eI data_o0_r43)⟩]⟩)]) (decide ((w64 ((w64 ((w64 (x133)) + m_2)) - start_20_e8_33)) < b_3))) (by kernel_rfl) (congrArg (fun t_213_m43 : Bool => mk [(0, .v false [.own 0 0 0]), (3, iv b_3), (4, .v false [.im 2 (.clo 229 [.cp [.row 2 (List.map e_S_Feature fc4_0_0)] 0, .cp [.sc (.string fc4_1_0), .row 1 (List.map eI fc4_1_1)] 0])]), (18, iv (w64 (x133))), (24, iv (w64 ((w64 ((w64 (x133)) + m_2)) - start_20_e8_33))), (213, bv t_213_m43)] [(0, some ⟨0, 0, true, false, false, false, [⟨.sh, 0, 0, .row 1 (List.map eI data_o0_r43)⟩]⟩)]) (by first | rfl | (simp [(iDec.2 hc30)]; done) | (simp [(iDec.2 hc30)]; omega))))⟩
                    · exact ⟨_, sq z275 (oMv rfl rfl) <| sq z275 (oMv rfl rfl) <| sq z275 (oBi rfl rfl rfl rfl) <| sq z275 (oMv rfl rfl) <| sgF rfl rfl (byF iDec hc30) rfl <| sgF rfl rfl (byF iDec hc30) rfl <| sgF rfl rfl (byF iDec hc30) rfl <| sq z275 (oPkF rfl rfl (byF iDec hc30) rfl) <| nl, (Eq.trans (b := (fun t_213_m43 : Bool => mk [(0, .v false [.own 0 0 0]), (3, iv b_3), (4, .v false [.im 2 (.clo 229 [.cp [.row 2 (List.map e_S_Feature fc4_0_0)] 0, .cp [.sc (.string fc4_1_0), .row 1 (List.map eI fc4_1_1)] 0])]), (18, iv (w64 (x133))), (24, iv (w64 ((w64 ((w64 (x133)) + m_2)) - start_20_e8_33))), (213, bv t_213_m43)] [(0, some ⟨0, 0, true, false, false, false, [⟨.sh, 0, 0, .row 1 (List.map eI data_o0_r43)⟩]⟩)]) false) (by kernel_rfl) (congrArg (fun t_213_m43 : Bool => mk [(0, .v false [.own 0 0 0]), (3, iv b_3), (4, .v false [.im 2 (.clo 229 [.cp [.row 2 (List.map e_S_Feature fc4_0_0)] 0, .cp [.sc (.string fc4_1_0), .row 1 (List.map eI fc4_1_1)] 0])]), (18, iv (w64 (x133))), (24, iv (w64 ((w64 ((w64 (x133)) + m_2)) - start_20_e8_33))), (213, bv t_213_m43)] [(0, some ⟨0, 0, true, false, false, false, [⟨.sh, 0, 0, .row 1 (List.map eI data_o0_r43)⟩]⟩)]) (by first | rfl | (simp [(byF iDec hc30)]; done) | (simp [(byF iDec hc30)]; omega))))⟩
                  · refine Unw.seq ?_
                    by_cases hc31 : ((w64 (x133)) < (w64 ((w64 ((w64 (x133)) + m_2)) - start_20_e8_33)) ∧ (w64 ((w64 ((w64 (x133)) + m_2)) - start_20_e8_33)) < b_3)
                    · rw [if_pos hc31] at h
                      refine Go.condT rfl ((iAnd iDec iDec).2 hc31) ?_
                      obtain ⟨x219, hx219, h⟩ := bs h
                      refine Go.r0 c275 rfl rfl (sq z275 (oMv rfl rfl) <| sq z275 (oMv rfl rfl) <| sq z275 (oMv rfl rfl) <| sq z275 (oMv rfl rfl) <| sq z275 (oMv rfl rfl) <| sq z275 (oCa (xs := [.v false [.own 0 0 0], .v false [.im 0 _], .v false [.im 0 _], .v false [.im 0 _], .v false [.im 2 _]]) (vs := []) (v := .tup []) (ih hx219) (.inl rfl) rfl kF275_27_3_3_3_273 rfl (ppC rfl (ppC rfl (ppC rfl (ppC rfl (ppC rfl pp0))))) rfl rfl (pbO rfl rfl rfl rfl pb0) rfl rfl rfl) <| nl) ?_
                      refine Unw.nil ?_
                      cases h
                      exact Fin_end (fin_of rfl rF275 rfl (by kernel_rfl))
                    · rw [if_neg hc31] at h
                      refine Go.condF rfl (byF (iAnd iDec iDec) hc31) ?_
                      refine Go.skip ?_
                      refine Unw.nil ?_
                      cases h
                      exact Fin_end (fin_of rfl rF275 rfl (by kernel_rfl))
                · intro K32
                  by_cases hc33 : (a_1 < start_20_e8_33 ∧ start_20_e8_33 < (w64 (x133)))
                  · rw [if_pos hc33] at h
                    refine Go.condT rfl ((iAnd iDec iDec).2 hc33) ?_
                    obtain ⟨x205, hx205, h⟩ := bs h
                    refine Go.r0 c275 rfl rfl (sq z275 (oMv rfl rfl) <| sq z275 (oMv rfl rfl) <| sq z275 (oMv rfl rfl) <| sq z275 (oMv rfl rfl) <| sq z275 (oMv rfl rfl) <| sq z275 (oCa (xs := [.v false [.own 0 0 0], .v false [.im 0 _], .v false [.im 0 _], .v false [.im 0 _], .v false [.im 2 _]]) (vs := []) (v := .tup []) (ih hx205) (.inl rfl) rfl kF275_27_3_3_3_273 rfl (ppC rfl (ppC rfl (ppC rfl (ppC rfl (ppC rfl pp0))))) rfl rfl (pbO rfl rfl rfl rfl pb0) rfl rfl rfl) <| nl) ?_
                    exact K32 _ ⟨x205, h, (by kernel_rfl)⟩
                  · rw [if_neg hc33] at h
                    refine Go.condF rfl (byF (iAnd iDec iDec) hc33) ?_
                    refine Go.skip ?_
                    exact K32 _ ⟨data_o0_r41, h, (by kernel_rfl)⟩
            · intro K34
              by_cases hc35 : (start_20_e8_33 < m_2 ∧ m_2 < (w64 ((w64 ((w64 (x133)) + m_2)) - start_20_e8_33)))
              · rw [if_pos hc35] at h
                refine Go.condT rfl ((iAnd iDec iDec).2 hc35) ?_
                obtain ⟨x191, hx191, h⟩ := bs h
                refine Go.r0 c275 rfl rfl (sq z275 (oMv rfl rfl) <| sq z275 (oMv rfl rfl) <| sq z275 (oMv rfl rfl) <| sq z275 (oMv rfl rfl) <| sq z275 (oMv rfl rfl) <| sq z275 (oCa (xs := [.v false [.own 0 0 0], .v false [.im 0 _], .v false [.im 0 _], .v false [.im 0 _], .v false [.im 2 _]]) (vs := []) (v := .tup []) (L_slices_rotateCmpFunc_int64_229 hx191) (.inl rfl) rfl kF285_27_3_3_3_273 rfl (ppC rfl (ppC rfl (ppC rfl (ppC rfl (ppC rfl pp0))))) rfl rfl (pbO rfl rfl rfl rfl pb0) rfl rfl rfl) <| nl) ?_
                exact K34 _ ⟨x191, h, (by kernel_rfl)⟩
              · rw [if_neg hc35] at h
                refine Go.condF rfl (byF (iAnd iDec iDec) hc35) ?_
                refine Go.skip ?_
                exact K34 _ ⟨data_0, h, (by kernel_rfl)⟩
      · intro K38
        by_cases hc39 : m_2 > (w64 (x133))
        · rw [if_pos hc39] at h
          refine Go.condT rfl (iDec.2 hc39) ?_
          refine Go.seq ?_
          refine Go.r0 c275 rfl rfl (sq z275 (oMv rfl rfl) <| sq z275 (oMv rfl rfl) <| sq z275 (oBi rfl rfl rfl rfl) <| sq z275 (oAsI rfl rfl) <| nl) ?_
          refine Unw.seq ?_
          refine Go.r0 c275 rfl rfl (sq z275 (oMv rfl rfl) <| sq z275 (oAsI rfl rfl) <| nl) ?_
          exact K38 _ ⟨(w64 ((w64 ((w64 (x133)) + m_2)) - b_3)), (w64 (x133)), h, (by kernel_rfl)⟩
        · rw [if_neg hc39] at h
          refine Go.condF rfl (byF iDec hc39) ?_
          refine Go.seq ?_
          refine Go.r0 c275 rfl rfl (sq z275 (oMv rfl rfl) <| sq z275 (oAsI rfl rfl) <| nl) ?_
          refine Unw.seq ?_
          refine Go.r0 c275 rfl rfl (sq z275 (oMv rfl rfl) <| sq z275 (oAsI rfl rfl) <| nl) ?_
          exact K38 _ ⟨a_1, m_2, h, (by kernel_rfl)⟩
theorem L_slices_symMergeCmpFunc_int64_229 {data_0 : (List Int)} {a_1 : Int} {m_2 : Int} {b_3 : Int} {fc4_0_0 : (List S_Feature)} {fc4_1_0 : ByteArray} {fc4_1_1 : (List Int)} {r : (List Int)} (h : slices_symMergeCmpFunc_int64 data_0 a_1 m_2 b_3 (fun b0 b1 => impl_RankedFeatures_c1 b0 b1 fc4_0_0 fc4_1_0 fc4_1_1) = some r) : FL Try.prog cfg 275 [.ow 1 (List.map eI data_0), .im 2 false [.sc (.int .i64 a_1)], .im 2 false [.sc (.int .i64 m_2)], .im 2 false [.sc (.int .i64 b_3)], .im 2 false [.clo 229 [.cp [.row 2 (List.map e_S_Feature fc4_0_0)] 0, .cp [.sc (.string fc4_1_0), .row 1 (List.map eI fc4_1_1)] 0]]] = some ([], [.ow 1 (List.map eI r)]) := by
  unfold slices_symMergeCmpFunc_int64 at h
  obtain ⟨n, hn⟩ := fixO_iter h
  clear h
  induction n generalizing data_0 a_1 m_2 b_3 r with
  | zero => cases hn
  | succ n ihn => exact L_slices_symMergeCmpFunc_int64_229_F (self := iterO _ n) (fun h => ihn h) hn
theorem L_slices_stableCmpFunc_int64_229 {data_0 : (List Int)} {n_1 : Int} {fc2_0_0 : (List S_Feature)} {fc2_1_0 : ByteArray} {fc2_1_1 : (List Int)} {r : (List Int)} (h : slices_stableCmpFunc_int64 data_0 n_1 (fun b0 b1 => impl_RankedFeatures_c1 b0 b1 fc2_0_0 fc2_1_0 fc2_1_1) = some r) : FL Try.prog cfg 245 [.ow 1 (List.map eI data_0), .im 2 false [.sc (.int .i64 n_1)], .im 2 false [.clo 229 [.cp [.row 2 (List.map e_S_Feature fc2_0_0)] 0, .cp [.sc (.string fc2_1_0), .row 1 (List.map eI fc2_1_1)] 0]]] = some ([], [.ow 1 (List.map eI r)]) := by
  unfold slices_stableCmpFunc_int64 at h
  refine FL_goS (A := [(0, .v false [.own 0 0 0]), (1, .v false [.im 2 (.sc (.int .i64 n_1))]), (2, .v false [.im 2 (.clo 229 [.cp [.row 2 (List.map e_S_Feature fc2_0_0)] 0, .cp [.sc (.string fc2_1_0), .row 1 (List.map eI fc2_1_1)] 0])])]) (B := [(0, some ⟨0, 0, true, false, false, false, [⟨.sh, 0, 0, .row 1 (List.map eI data_0)⟩]⟩), (1, none), (2, none)]) (nt := 63) rfl rfl Try.func245 rfl rfl rfl rfl ?_
  refine Go.seq ?_
  refine Go.r0 c245 rfl rfl (sq z245 (oAsI rfl rfl) <| nl) ?_
  refine Unw.seq ?_
  refine Go.seq ?_
  refine Go.r0 c245 rfl rfl (sq z245 (oMv rfl rfl) <| sq z245 (oAsI rfl rfl) <| sq z245 (oAsI rfl rfl) <| nl) ?_
  refine Unw.seq ?_
  refine Go.seq ?_
  refine Go.block ?_
  obtain ⟨o, hl, h⟩ := bs h
  refine Go.lp c245 rfl _ (fun (s : (Int × Int × (List Int))) => match s with | (a_7_l2, b_8_l2, data_o0_l2) => mk [(0, .v false [.own 0 0 0]), (1, iv n_1), (2, .v false [.im 2 (.clo 229 [.cp [.row 2 (List.map e_S_Feature fc2_0_0)] 0, .cp [.sc (.string fc2_1_0), .row 1 (List.map eI fc2_1_1)] 0])]), (6, iv 20), (7, iv a_7_l2), (8, iv b_8_l2)] [(0, some ⟨0, 0, true, false, false, false, [⟨.sh, 0, 0, .row 1 (List.map eI data_o0_l2)⟩]⟩)]) (fun (o : (Int × (List Int))) (p : Ex × St) => match o with | (a_7_e0_2, data_o0_e0_2) => p.1 = .exit 0 ∧ p.2.norm ([0, 1, 2, 6, 7], [0]) = mk [(0, .v false [.own 0 0 0]), (1, iv n_1), (2, .v false [.im 2 (.clo 229 [.cp [.row 2 (List.map e_S_Feature fc2_0_0)] 0, .cp [.sc (.string fc2_1_0), .row 1 (List.map eI fc2_1_1)] 0])]), (6, iv 20), (7, iv a_7_e0_2)] [(0, some ⟨0, 0, true, false, false, false, [⟨.sh, 0, 0, .row 1 (List.map eI data_o0_e0_2)⟩]⟩)]) hl (by kernel_rfl) ?_ ?_ ?_
  · intro o p hp e
    obtain ⟨a_7_e0_2, data_o0_e0_2⟩ := o
    exact nomatch (hp.1.symm.trans e)
  · rintro ⟨a_7_l2, b_8_l2, data_o0_l2⟩ o h
    unfold slices_stableCmpFunc_int64_l2 at h
    dsimp only at h
    refine Go.seq ?_
    refine Go.seq ?_
    refine Go.r0 c245 rfl rfl (sq z245 (oMv rfl rfl) <| sq z245 (oMv rfl rfl) <| sq z245 (oBi rfl rfl rfl rfl) <| nl) ?_
    refine Unw.seq ?_
    by_cases hc18 : b_8_l2 ≤ n_1
    · rw [if_pos hc18] at h
      refine Go.condT rfl (iDec.2 hc18) ?_
      refine Go.skip ?_
      refine Unw.seq ?_
      refine Go.block ?_
      refine Go.seq ?_
      obtain ⟨x18, hx18, h⟩ := bs h
      refine Go.r0 c245 rfl rfl (sq z245 (oMv rfl rfl) <| sq z245 (oMv rfl rfl) <| sq z245 (oMv rfl rfl) <| sq z245 (oMv rfl rfl) <| sq z245 (oCa (xs := [.v false [.own 0 0 0], .v false [.im 0 _], .v false [.im 0 _], .v false [.im 2 _]]) (vs := []) (v := .tup []) (L_slices_insertionSortCmpFunc_int64_229 hx18) (.inl rfl) rfl kF274_27_3_3_273 rfl (ppC rfl (ppC rfl (ppC rfl (ppC rfl pp0)))) rfl rfl (pbO rfl rfl rfl rfl pb0) rfl rfl rfl) <| nl) ?_
      refine Unw.seq ?_
      refine Go.seq ?_
      refine Go.r1 c245 rfl rfl (st1 := mk [(0, .v false [.own 0 0 0]), (1, iv n_1), (2, .v false [.im 2 (.clo 229 [.cp [.row 2 (List.map e_S_Feature fc2_0_0)] 0, .cp [.sc (.string fc2_1_0), .row 1 (List.map eI fc2_1_1)] 0])]), (6, iv 20), (8, iv b_8_l2)] [(0, some ⟨0, 0, true, false, false, false, [⟨.sh, 0, 0, .row 1 (List.map eI x18)⟩]⟩)]) (by kernel_rfl) (sq z245 (oMv rfl rfl) <| sq z245 (oAsI rfl rfl) <| nl) ?_
      refine Unw.seq ?_
      refine Go.r0 c245 rfl rfl (sq z245 (oMv rfl rfl) <| sq z245 (oMv rfl rfl) <| sq z245 (oBi rfl rfl rfl rfl) <| sq z245 (oAsI rfl rfl) <| nl) ?_
      refine Unw.blk ?_
      refine Unw.nil ?_
      cases h
      exact ⟨rfl, (by kernel_rfl)⟩
    · rw [if_neg hc18] at h
      refine Go.condF rfl (byF iDec hc18) ?_
      refine Go.exit ?_
      refine Unw.seqx ?_
      refine Unw.nil ?_
      cases h
      exact ⟨rfl, (by kernel_rfl)⟩
  · rintro ⟨e, st⟩ hp
    obtain ⟨a_7_e0_2, data_o0_e0_2⟩ := o
    dsimp only at h
    obtain ⟨he, hst⟩ := hp
    obtain rfl : e = .exit 0 := he
    refine Unw.blkx ?_
    refine Unw.seq ?_
    refine Go.seq ?_
    obtain ⟨x27, hx27, h⟩ := bs h
    refine Go.r1 c245 rfl rfl hst (sq z245 (oMv rfl rfl) <| sq z245 (oMv rfl rfl) <| sq z245 (oMv rfl rfl) <| sq z245 (oMv rfl rfl) <| sq z245 (oCa (xs := [.v false [.own 0 0 0], .v false [.im 0 _], .v false [.im 0 _], .v false [.im 2 _]]) (vs := []) (v := .tup []) (L_slices_insertionSortCmpFunc_int64_229 hx27) (.inl rfl) rfl kF274_27_3_3_273 rfl (ppC rfl (ppC rfl (ppC rfl (ppC rfl pp0)))) rfl rfl (pbO rfl rfl rfl rfl pb0) rfl rfl rfl) <| nl) ?_
    refine Unw.seq ?_
    refine Go.block ?_
    obtain ⟨o, hl, h⟩ := bs h
    refine Go.lp c245 rfl _ (fun (s : (Int × (List Int))) => match s with | (blockSize_6_l7, data_o0_l7) => mk [(0, .v false [.own 0 0 0]), (1, iv n_1), (2, .v false [.im 2 (.clo 229 [.cp [.row 2 (List.map e_S_Feature fc2_0_0)] 0, .cp [.sc (.string fc2_1_0), .row 1 (List.map eI fc2_1_1)] 0])]), (6, iv blockSize_6_l7)] [(0, some ⟨0, 0, true, false, false, false, [⟨.sh, 0, 0, .row 1 (List.map eI data_o0_l7)⟩]⟩)]) (fun (r2 : (List Int)) (p : Ex × St) => p.1 = .exit 2 ∧ fin Try.prog cfg 245 Try.f245 [.ow 1 (List.map eI data_0), .im 2 false [.sc (.int .i64 n_1)], .im 2 false [.clo 229 [.cp [.row 2 (List.map e_S_Feature fc2_0_0)] 0, .cp [.sc (.string fc2_1_0), .row 1 (List.map eI fc2_1_1)] 0]]] p.2 = some ([], [.ow 1 (List.map eI r2)])) hl (by kernel_rfl) ?_ ?_ ?_
    · intro o p hp e
      exact nomatch (hp.1.symm.trans e)
    · rintro ⟨blockSize_6_l7, data_o0_l7⟩ o h
      unfold slices_stableCmpFunc_int64_l7 at h
      dsimp only at h
      refine Go.seq ?_
      refine Go.seq ?_
      refine Go.r0 c245 rfl rfl (sq z245 (oMv rfl rfl) <| sq z245 (oMv rfl rfl) <| sq z245 (oBi rfl rfl rfl rfl) <| nl) ?_
      refine Unw.seq ?_
      by_cases hc11 : blockSize_6_l7 < n_1
      · rw [if_pos hc11] at h
        refine Go.condT rfl (iDec.2 hc11) ?_
        refine Go.skip ?_
        refine Unw.seq ?_
        refine Go.block ?_
        refine Go.seq ?_
        refine Go.r0 c245 rfl rfl (sq z245 (oMv rfl rfl) <| sq z245 (oBi rfl rfl rfl rfl) <| sq z245 (oAsI rfl rfl) <| sq z245 (oAsI rfl rfl) <| nl) ?_
        refine Unw.seq ?_
        refine Go.seq ?_
        refine Go.block ?_
        obtain ⟨o, hl, h⟩ := bs h
        refine Go.lp c245 rfl _ (fun (s : (Int × Int × (List Int))) => match s with | (a_7_l9, b_8_l9, data_o0_l9) => mk [(0, .v false [.own 0 0 0]), (1, iv n_1), (2, .v false [.im 2 (.clo 229 [.cp [.row 2 (List.map e_S_Feature fc2_0_0)] 0, .cp [.sc (.string fc2_1_0), .row 1 (List.map eI fc2_1_1)] 0])]), (6, iv blockSize_6_l7), (7, iv a_7_l9), (8, iv b_8_l9)] [(0, some ⟨0, 0, true, false, false, false, [⟨.sh, 0, 0, .row 1 (List.map eI data_o0_l9)⟩]⟩)]) (fun (o : (Int × (List Int))) (p : Ex × St) => match o with | (a_7_e4_9, data_o0_e4_9) => p.1 = .exit 4 ∧ p.2.norm ([0, 1, 2, 6, 7], [0]) = mk [(0, .v false [.own 0 0 0]), (1, iv n_1), (2, .v false [.im 2 (.clo 229 [.cp [.row 2 (List.map e_S_Feature fc2_0_0)] 0, .cp [.sc (.string fc2_1_0), .row 1 (List.map eI fc2_1_1)] 0])]), (6, iv blockSize_6_l7), (7, iv a_7_e4_9)] [(0, some ⟨0, 0, true, false, false, false, [⟨.sh, 0, 0, .row 1 (List.map eI data_o0_e4_9)⟩]⟩)]) hl (by kernel_rfl) ?_ ?_ ?_
        · intro o p hp e
          obtain ⟨a_7_e4_9, data_o0_e4_9⟩ := o
          exact nomatch (hp.1.symm.trans e)
        · rintro ⟨a_7_l9, b_8_l9, data_o0_l9⟩ o h
          unfold slices_stableCmpFunc_int64_l9 at h
          dsimp only at h
          refine Go.seq ?_
          refine Go.seq ?_
          refine Go.r0 c245 rfl rfl (sq z245 (oMv rfl rfl) <| sq z245 (oMv rfl rfl) <| sq z245 (oBi rfl rfl rfl rfl) <| nl) ?_
          refine Unw.seq ?_
          by_cases hc17 : b_8_l9 ≤ n_1
          · rw [if_pos hc17] at h
            refine Go.condT rfl (iDec.2 hc17) ?_
            refine Go.skip ?_
            refine Unw.seq ?_
            refine Go.block ?_
            refine Go.seq ?_
            obtain ⟨x43, hx43, h⟩ := bs h
            refine Go.r0 c245 rfl rfl (sq z245 (oMv rfl rfl) <| sq z245 (oMv rfl rfl) <| sq z245 (oMv rfl rfl) <| sq z245 (oMv rfl rfl) <| sq z245 (oBi rfl rfl rfl rfl) <| sq z245 (oMv rfl rfl) <| sq z245 (oMv rfl rfl) <| sq z245 (oCa (xs := [.v false [.own 0 0 0], .v false [.im 0 _], .v false [.im 0 _], .v false [.im 0 _], .v false [.im 2 _]]) (vs := []) (v := .tup []) (L_slices_symMergeCmpFunc_int64_229 hx43) (.inl rfl) rfl kF275_27_3_3_3_273 rfl (ppC rfl (ppC rfl (ppC rfl (ppC rfl (ppC rfl pp0))))) rfl rfl (pbO rfl rfl rfl rfl pb0) rfl rfl rfl) <| nl) ?_
            refine Unw.seq ?_
            refine Go.seq ?_
            refine Go.r1 c245 rfl rfl (st1 := mk [(0, .v false [.own 0 0 0]), (1, iv n_1), (2, .v false [.im 2 (.clo 229 [.cp [.row 2 (List.map e_S_Feature fc2_0_0)] 0, .cp [.sc (.string fc2_1_0), .row 1 (List.map eI fc2_1_1)] 0])]), (6, iv blockSize_6_l7), (8, iv b_8_l9)] [(0, some ⟨0, 0, true, false, false, false, [⟨.sh, 0, 0, .row 1 (List.map eI x43)⟩]⟩)]) (by kernel_rfl) (sq z245 (oMv rfl rfl) <| sq z245 (oAsI rfl rfl) <| nl) ?_
            refine Unw.seq ?_
            refine Go.r0 c245 rfl rfl (sq z245 (oMv rfl rfl) <| sq z245 (oMv rfl rfl) <| sq z245 (oBi rfl rfl rfl rfl) <| sq z245 (oBi rfl rfl rfl rfl) <| sq z245 (oAsI rfl rfl) <| nl) ?_
            refine Unw.blk ?_
            refine Unw.nil ?_
            cases h
            exact ⟨rfl, (by kernel_rfl)⟩
          · rw [if_neg hc17] at h
            refine Go.condF rfl (byF iDec hc17) ?_
            refine Go.exit ?_
            refine Unw.seqx ?_
            refine Unw.nil ?_
            cases h
            exact ⟨rfl, (by kernel_rfl)⟩
        · rintro ⟨e, st⟩ hp
          obtain ⟨a_7_e4_9, data_o0_e4_9⟩ := o
          dsimp only at h
          obtain ⟨he, hst⟩ := hp
          obtain rfl : e = .exit 4 := he
          refine Unw.blkx ?_
          refine Unw.seq ?_
          refine Go.seq ?_
          refine Go.seq ?_
          refine Go.r1 c245 rfl rfl hst (sq z245 (oMv rfl rfl) <| sq z245 (oMv rfl rfl) <| sq z245 (oBi rfl rfl rfl rfl) <| sq z245 (oAsI rfl rfl) <| nl) ?_
          refine Unw.seq ?_
          refine Go.seq ?_
          refine Go.r0 c245 rfl rfl (sq z245 (oMv rfl rfl) <| sq z245 (oMv rfl rfl) <| sq z245 (oBi rfl rfl rfl rfl) <| nl) ?_
          refine Unw.seq ?_
          refine Go.join (fun st => ∃ data_o0_r16, slices_stableCmpFunc_int64_k16 blockSize_6_l7 data_o0_r16 = some o ∧ st.norm ([0, 1, 2, 6], [0]) = mk [(0, .v false [.own 0 0 0]), (1, iv n_1), (2, .v false [.im 2 (.clo 229 [.cp [.row 2 (List.map e_S_Feature fc2_0_0)] 0, .cp [.sc (.string fc2_1_0), .row 1 (List.map eI fc2_1_1)] 0])]), (6, iv blockSize_6_l7)] [(0, some ⟨0, 0, true, false, false, false, [⟨.sh, 0, 0, .row 1 (List.map eI data_o0_r16)⟩]⟩)]) ?_ ?_
          · rintro st ⟨data_o0_r16, h, hst⟩
            unfold slices_stableCmpFunc_int64_k16 at h
            refine Unw.seq ?_
            refine Go.r1 c245 rfl rfl hst (sq z245 (oMv rfl rfl) <| sq z245 (oBi rfl rfl rfl rfl) <| sq z245 (oAsI rfl rfl) <| nl) ?_
            refine Unw.blk ?_
            refine Unw.nil ?_
            cases h
            exact ⟨rfl, (by kernel_rfl)⟩
          · intro K15
            by_cases hc16 : (w64 (a_7_e4_9 + blockSize_6_l7)) < n_1
            · rw [if_pos hc16] at h
              refine Go.condT rfl (iDec.2 hc16) ?_
              obtain ⟨x60, hx60, h⟩ := bs h
              refine Go.r0 c245 rfl rfl (sq z245 (oMv rfl rfl) <| sq z245 (oMv rfl rfl) <| sq z245 (oMv rfl rfl) <| sq z245 (oMv rfl rfl) <| sq z245 (oMv rfl rfl) <| sq z245 (oCa (xs := [.v false [.own 0 0 0], .v false [.im 0 _], .v false [.im 0 _], .v false [.im 0 _], .v false [.im 2 _]]) (vs := []) (v := .tup []) (L_slices_symMergeCmpFunc_int64_229 hx60) (.inl rfl) rfl kF275_27_3_3_3_273 rfl (ppC rfl (ppC rfl (ppC rfl (ppC rfl (ppC rfl pp0))))) rfl rfl (pbO rfl rfl rfl rfl pb0) rfl rfl rfl) <| nl) ?_
              exact K15 _ ⟨x60, h, (by kernel_rfl)⟩
            · rw [if_neg hc16] at h
              refine Go.condF rfl (byF iDec hc16) ?_
              refine Go.skip ?_
              exact K15 _ ⟨data_o0_e4_9, h, (by kernel_rfl)⟩
      · rw [if_neg hc11] at h
        refine Go.condF rfl (byF iDec hc11) ?_
        refine Go.exit ?_
        refine Unw.seqx ?_
        refine Unw.nil ?_
        cases h
        exact ⟨rfl, (fin_of rfl rF245 rfl (by kernel_rfl))⟩
    · rintro ⟨e, st⟩ hp
      obtain ⟨r2, rfl⟩ : ∃ y, y = o := ⟨o, rfl⟩
      obtain ⟨he, hfin⟩ := hp
      obtain rfl : e = .exit 2 := he
      cases h
      refine Unw.blkx ?_
      exact Unw.nil (Fin_end hfin)
theorem L_slices_SortStableFunc_int64_int64_229 {x_0 : (List Int)} {fc1_0_0 : (List S_Feature)} {fc1_1_0 : ByteArray} {fc1_1_1 : (List Int)} {r : (List Int)} (h : slices_SortStableFunc_int64_int64 x_0 (fun b0 b1 => impl_RankedFeatures_c1 b0 b1 fc1_0_0 fc1_1_0 fc1_1_1) = some r) : FL Try.prog cfg 177 [.ow 1 (List.map eI x_0), .im 2 false [.clo 229 [.cp [.row 2 (List.map e_S_Feature fc1_0_0)] 0, .cp [.sc (.string fc1_1_0), .row 1 (List.map eI fc1_1_1)] 0]]] = some ([], [.ow 1 (List.map eI r)]) := by
  unfold slices_SortStableFunc_int64_int64 at h
  refine FL_goS (A := [(0, .v false [.own 0 0 0]), (1, .v false [.im 2 (.clo 229 [.cp [.row 2 (List.map e_S_Feature fc1_0_0)] 0, .cp [.sc (.string fc1_1_0), .row 1 (List.map eI fc1_1_1)] 0])])]) (B := [(0, some ⟨0, 0, true, false, false, false, [⟨.sh, 0, 0, .row 1 (List.map eI x_0)⟩]⟩), (1, none)]) (nt := 9) rfl rfl Try.func177 rfl rfl rfl rfl ?_
  obtain ⟨x8, hx8, h⟩ := bs h
  refine Go.r0 c177 rfl rfl (sq z177 (oMv rfl rfl) <| sq z177 (oMv rfl rfl) <| sq z177 (oLnO rfl rfl uF27 rfl rfl rfl (fun e => nomatch e)) <| sq z177 (oMv rfl rfl) <| sq z177 (oCa (xs := [.v false [.own 0 0 0], .v false [.im 0 _], .v false [.im 2 _]]) (vs := []) (v := .tup []) (L_slices_stableCmpFunc_int64_229 hx8) (.inl rfl) rfl kF245_27_3_273 rfl (ppC rfl (ppC rfl (ppC rfl pp0))) rfl rfl (pbO rfl rfl rfl rfl pb0) rfl rfl rfl) <| nl) ?_
  refine Unw.nil ?_
  cases h
  exact Fin_end (fin_of rfl rF177 rfl (by kernel_rfl))
theorem L_impl_RankedFeatures {list_0 : (List S_Feature)} {f_1 : S_Feature} {r : ((List Int) × Int)} (h : impl_RankedFeatures list_0 f_1 = some r) : FL Try.prog cfg 149 [.im 2 false [.row 2 (List.map e_S_Feature list_0)], .im 2 true [.sc (.string f_1.Id), .row 1 (List.map eI f_1.Values)]] = some ([(false, [.ow 0 1 (List.map eI r.1)]), (false, [.im 0 (.sc (.int .i64 r.2))])], []) := by
  unfold impl_RankedFeatures at h
  refine FL_goS (A := [(0, .v false [.im 2 (.row 2 (List.map e_S_Feature list_0))]), (1, .v true [.im 2 (.sc (.string f_1.Id)), .im 2 (.row 1 (List.map eI f_1.Values))])]) (B := [(0, none), (1, none)]) (nt := 31) rfl rfl Try.func149 rfl rfl rfl rfl ?_
  refine Go.seq ?_
  refine Go.r0 c149 rfl rfl (sq z149 (oBx rfl tF73 rfl (tkI tk0)) <| sq z149 (oBx rfl tF194 rfl (tkI (tkI tk0))) <| sq z149 (oAsN rfl rfl eF27) <| sq z149 (oAsI rfl rfl) <| nl) ?_
  refine Unw.seq ?_
  refine Go.seq ?_
  refine Go.seq ?_
  obtain ⟨x9, hx9, h⟩ := bs h
  obtain ⟨t_15_m1, hm6, h⟩ := bs h
  refine Go.rX c149 rfl rfl rfl (mk [(2, .v false [.mp 2 0 0]), (3, .v false [.mp 3 0 0]), (15, bv t_15_m1)] [(2, some ⟨0, 0, false, true, false, false, [⟨.imm, 0, 2, .row 2 (List.map e_S_Feature list_0)⟩]⟩), (3, some ⟨0, 0, false, true, false, true, [⟨.imm, 0, 0, .sc (.string f_1.Id)⟩, ⟨.imm, 0, 2, .row 1 (List.map eI f_1.Values)⟩]⟩)]) ?_ ?_
  · by_cases hc1 : x9 = true
    · rw [if_pos hc1] at hm6
      obtain ⟨x13, hx13, hm6⟩ := bs hm6
      cases hm6
      exact ⟨_, sq z149 (oLd (cs := [.im 2 _]) rfl tF73 rfl rfl) <| sq z149 (oCa (xs := [.v false [.im 2 _]]) (vs := [(false, [.im 0 _])]) (v := .v false [.im 0 _]) (L_impl_ValidFeatures hx9) (.inl rfl) rfl kF153_73 rfl (ppC rfl pp0) rfl rfl pb0 rfl rfl rfl) <| sq z149 (oUn rfl rfl rfl) <| sq z149 (oMv rfl rfl) <| sgT z149 rfl rfl (nF (Iff.rfl.2 hc1)) (oLd (cs := [.im 0 _, .im 2 _]) rfl tF194 rfl rfl) <| sgT z149 rfl rfl (nF (Iff.rfl.2 hc1)) (oCa (xs := [.v true [.im 0 _, .im 2 _]]) (vs := [(false, [.im 0 _])]) (v := .v false [.im 0 _]) (L_impl_ValidFeature hx13) (.inl rfl) rfl kF228_194 rfl (ppC rfl pp0) rfl rfl pb0 rfl rfl rfl) <| sgT z149 rfl rfl (nF (Iff.rfl.2 hc1)) (oUn rfl rfl rfl) <| sq z149 (oPkF rfl rfl (nF (Iff.rfl.2 hc1)) rfl) <| nl, (by kernel_rfl)⟩
    · rw [if_neg hc1] at hm6
      cases hm6
      exact ⟨_, sq z149 (oLd (cs := [.im 2 _]) rfl tF73 rfl rfl) <| sq z149 (oCa (xs := [.v false [.im 2 _]]) (vs := [(false, [.im 0 _])]) (v := .v false [.im 0 _]) (L_impl_ValidFeatures hx9) (.inl rfl) rfl kF153_73 rfl (ppC rfl pp0) rfl rfl pb0 rfl rfl rfl) <| sq z149 (oUn rfl rfl rfl) <| sq z149 (oMv rfl rfl) <| sgF rfl rfl (nT (byF Iff.rfl hc1)) rfl <| sgF rfl rfl (nT (byF Iff.rfl hc1)) rfl <| sgF rfl rfl (nT (byF Iff.rfl hc1)) rfl <| sq z149 (oPkT rfl rfl (nT (byF Iff.rfl hc1)) rfl) <| nl, (by kernel_rfl)⟩
  · refine Unw.seq ?_
    by_cases hc2 : t_15_m1 = true
    · rw [if_pos hc2] at h
      refine Go.condT rfl (Iff.rfl.2 hc2) ?_
      refine Go.seq ?_
      refine Go.r0 c149 rfl rfl (sq z149 (oAsN rfl rfl eF27) <| sq z149 (oAsI rfl rfl) <| nl) ?_
      refine Unw.seq ?_
      refine Go.ret (Unw.ret ?_)
      cases h
      exact Fin_ret (fin_of rfl rF149 rfl (by kernel_rfl))
    · rw [if_neg hc2] at h
      refine Go.condF rfl (byF Iff.rfl hc2) ?_
      refine Go.skip ?_
      refine Unw.seq ?_
      refine Go.seq ?_
      refine Go.r0 c149 rfl rfl (sq z149 (oBS (es := List.map eI ([] : List Int)) rfl sF27 rfl pt0 (flat0 rfl fun _ => rfl)) <| sq z149 (oAsO rfl rfl rfl rfl rfl) <| nl) ?_
      refine Unw.seq ?_
      refine Go.seq ?_
      refine Go.seq ?_
      refine Go.r0 c149 rfl rfl (sq z149 (oLd (cs := [.im 2 _]) rfl tF73 rfl rfl) <| sq z149 (oLnI rfl rfl uF73 rfl) <| sq z149 (oMv rfl rfl) <| nl) ?_
      refine Unw.seq ?_
      refine Go.block ?_
      obtain ⟨o, hl, h⟩ := bs h
      refine Go.lp c149 rfl _ (fun (s : (Int × (List Int))) => match s with | (t_19_l5, out_o6_l5) => mk [(2, .v false [.mp 2 0 0]), (3, .v false [.mp 3 0 0]), (6, .v false [.own 6 0 0]), (18, iv (list_0.length : Int)), (19, iv t_19_l5)] [(2, some ⟨0, 0, false, true, false, false, [⟨.imm, 0, 2, .row 2 (List.map e_S_Feature list_0)⟩]⟩), (3, some ⟨0, 0, false, true, false, true, [⟨.imm, 0, 0, .sc (.string f_1.Id)⟩, ⟨.imm, 0, 2, .row 1 (List.map eI f_1.Values)⟩]⟩), (6, some ⟨0, 0, false, false, false, false, [⟨.sh, 0, 0, .row 1 (List.map eI out_o6_l5)⟩]⟩)]) (fun (out_o6_e0_5 : (List Int)) (p : Ex × St) => p.1 = .exit 0 ∧ p.2.norm ([2, 3, 6], [2, 3, 6]) = mk [(2, .v false [.mp 2 0 0]), (3, .v false [.mp 3 0 0]), (6, .v false [.own 6 0 0])] [(2, some ⟨0, 0, false, true, false, false, [⟨.imm, 0, 2, .row 2 (List.map e_S_Feature list_0)⟩]⟩), (3, some ⟨0, 0, false, true, false, true, [⟨.imm, 0, 0, .sc (.string f_1.Id)⟩, ⟨.imm, 0, 2, .row 1 (List.map eI f_1.Values)⟩]⟩), (6, some ⟨0, 0, false, false, false, false, [⟨.sh, 0, 0, .row 1 (List.map eI out_o6_e0_5)⟩]⟩)]) hl (by kernel_rfl) ?_ ?_ ?_
      · intro o p hp e
        exact nomatch (hp.1.symm.trans e)
      · rintro ⟨t_19_l5, out_o6_l5⟩ o h
        unfold impl_RankedFeatures_l5 at h
        dsimp only at h
        refine Go.seq ?_
        refine Go.r0 c149 rfl rfl (sq z149 (oBi rfl rfl rfl rfl) <| nl) ?_
        refine Unw.seq ?_
        refine Go.seq ?_
        by_cases hc5 : t_19_l5 < (list_0.length : Int)
        · rw [if_pos hc5] at h
          refine Go.condT rfl (iDec.2 hc5) ?_
          refine Go.skip ?_
          refine Unw.seq ?_
          refine Go.seq ?_
          refine Go.block ?_
          refine Go.seq ?_
          refine Go.r0 c149 rfl rfl (sq z149 (oMv rfl rfl) <| sq z149 (oAsI rfl rfl) <| nl) ?_
          refine Unw.seq ?_
          obtain ⟨x25, hx25, h⟩ := bs h
          refine Go.r0 c149 rfl rfl (sq z149 (oMv rfl rfl) <| sq z149 (oMv rfl rfl) <| sq z149 (oBS (es := List.map eI ([t_19_l5] : List Int)) rfl sF27 rfl (ptC rfl (fxI fx0) rfl pt0) (flat0 rfl fun _ => rfl)) <| sq z149 (oApO (en := eI) (M := ([t_19_l5] : List Int)) rfl hx25 rfl sF27 rfl rfl uF27 (.inl ⟨_, rfl⟩) rfl rfl rfl rfl (el_own rfl rfl) (flat0 rfl fun _ => rfl)) <| sq z149 (oAsO rfl rfl rfl rfl rfl) <| nl) ?_
          refine Unw.blk ?_
          refine Unw.seq ?_
          refine Go.r0 c149 rfl rfl (sq z149 (oBi rfl rfl rfl rfl) <| sq z149 (oMv rfl rfl) <| nl) ?_
          refine Unw.nil ?_
          cases h
          exact ⟨rfl, (by kernel_rfl)⟩
        · rw [if_neg hc5] at h
          refine Go.condF rfl (byF iDec hc5) ?_
          refine Go.exit ?_
          refine Unw.seqx ?_
          refine Unw.nil ?_
          cases h
          exact ⟨rfl, (by kernel_rfl)⟩
      · rintro ⟨e, st⟩ hp
        obtain ⟨out_o6_e0_5, rfl⟩ : ∃ y, y = o := ⟨o, rfl⟩
        obtain ⟨he, hst⟩ := hp
        obtain rfl : e = .exit 0 := he
        refine Unw.blkx ?_
        refine Unw.seq ?_
        refine Go.seq ?_
        obtain ⟨x29, hx29, h⟩ := bs h
        refine Go.r1 c149 rfl rfl hst (sq z149 (oMv rfl rfl) <| sq z149 (oMF (rs := [.mp 2 0 0, .mp 3 0 0]) rfl rfl) <| sq z149 (oCa (xs := [.v false [.own 6 0 0], .fn 229 [.mp 2 0 0, .mp 3 0 0]]) (vs := []) (v := .tup []) (L_slices_SortStableFunc_int64_int64_229 hx29) (.inl rfl) rfl kF177_27_273 rfl (ppC rfl (ppC rfl pp0)) rfl rfl (pbO rfl rfl rfl rfl pb0) rfl rfl rfl) <| nl) ?_
        refine Unw.seq ?_
        refine Go.seq ?_
        refine Go.r1 c149 rfl rfl (st1 := mk [(6, .v false [.own 6 0 0])] [(6, some ⟨0, 0, false, false, false, false, [⟨.sh, 0, 0, .row 1 (List.map eI x29)⟩]⟩)]) (by kernel_rfl) (sq z149 (oMv rfl rfl) <| sq z149 (oAsO rfl rfl rfl rfl rfl) <| sq z149 (oAsI rfl rfl) <| nl) ?_
        refine Unw.seq ?_
        refine Go.ret (Unw.ret ?_)
        cases h
        exact Fin_ret (fin_of rfl rF149 rfl (by kernel_rfl))
theorem L_impl_GreedyMatches_c1 {k_0 : Int} {cap0_0 : (List Int)} {r : Bool} (h : impl_GreedyMatches_c1 k_0 cap0_0 = some r) : FL Try.prog cfg 151 [.im 2 false [.sc (.int .i64 k_0)], .im 2 false [.cp [.row 1 (List.map eI cap0_0)] 0]] = some ([(false, [.im 0 (.sc (.bool r))])], []) := by
  unfold impl_GreedyMatches_c1 at h
  refine FL_goS (A := [(0, .v false [.im 2 (.sc (.int .i64 k_0))]), (1, .v false [.im 2 (.cp [.row 1 (List.map eI cap0_0)] 0)])]) (B := [(0, none), (1, none)]) (nt := 8) rfl rfl Try.func151 rfl rfl rfl rfl ?_
  refine Go.seq ?_
  refine Go.r0 c151 rfl rfl (sq z151 (oAsI rfl rfl) <| nl) ?_
  refine Unw.seq ?_
  refine Go.seq ?_
  obtain ⟨x6, hx6, h⟩ := bs h
  refine Go.r0 c151 rfl rfl (sq z151 (oLd (cs := [.im 2 _]) rfl tF27 rfl rfl) <| sq z151 (oMv rfl rfl) <| sq z151 (oCa (xs := [.v false [.im 2 _], .v false [.im 2 _]]) (vs := [(false, [.im 0 _])]) (v := .v false [.im 0 _]) (L_slices_Contains_int64_int64 hx6) (.inl rfl) rfl kF152_27_2 rfl (ppC rfl (ppC rfl pp0)) rfl rfl pb0 rfl rfl rfl) <| sq z151 (oUn rfl rfl rfl) <| sq z151 (oAsI rfl rfl) <| nl) ?_
  refine Unw.seq ?_
  refine Go.ret (Unw.ret ?_)
  cases h
  exact Fin_ret (fin_of rfl rF151 rfl (by kernel_rfl))
theorem L_slices_IndexFunc_int64_int64_151 {s_0 : (List Int)} {fc1_0_0 : (List Int)} {r : Int} (h : slices_IndexFunc_int64_int64 s_0 (fun b0 => impl_GreedyMatches_c1 b0 fc1_0_0) = some r) : FL Try.prog cfg 150 [.im 2 false [.row 1 (List.map eI s_0)], .im 2 false [.clo 151 [.cp [.row 1 (List.map eI fc1_0_0)] 0]]] = some ([(false, [.im 0 (.sc (.int .i64 r))])], []) := by
  unfold slices_IndexFunc_int64_int64 at h
  refine FL_goS (A := [(0, .v false [.im 2 (.row 1 (List.map eI s_0))]), (1, .v false [.im 2 (.clo 151 [.cp [.row 1 (List.map eI fc1_0_0)] 0])])]) (B := [(0, none), (1, none)]) (nt := 19) rfl rfl Try.func150 rfl rfl rfl rfl ?_
  refine Go.seq ?_
  refine Go.r0 c150 rfl rfl (sq z150 (oAsI rfl rfl) <| nl) ?_
  refine Unw.seq ?_
  refine Go.seq ?_
  refine Go.seq ?_
  refine Go.r0 c150 rfl rfl (sq z150 (oMv rfl rfl) <| sq z150 (oLnI rfl rfl uF27 rfl) <| sq z150 (oMv rfl rfl) <| nl) ?_
  refine Unw.seq ?_
  refine Go.block ?_
  obtain ⟨o, hl, h⟩ := bs h
  refine Go.lp c150 rfl _ (fun (t_8_l2 : Int) => mk [(0, .v false [.im 2 (.row 1 (List.map eI s_0))]), (1, .v false [.im 2 (.clo 151 [.cp [.row 1 (List.map eI fc1_0_0)] 0])]), (7, iv (s_0.length : Int)), (8, iv t_8_l2)] []) (fun (o : (Unit ⊕ Int)) (p : Ex × St) => match o with | (.inl _) => p.1 = .exit 0 ∧ p.2.norm ([], []) = mk [] [] | (.inr r2) => p.1 = .ret ∧ fin Try.prog cfg 150 Try.f150 [.im 2 false [.row 1 (List.map eI s_0)], .im 2 false [.clo 151 [.cp [.row 1 (List.map eI fc1_0_0)] 0]]] p.2 = some ([(false, [.im 0 (.sc (.int .i64 r2))])], [])) hl (by kernel_rfl) ?_ ?_ ?_
  · intro o p hp e
    rcases o with u | r2 <;> exact nomatch (hp.1.symm.trans e)
  · rintro t_8_l2 o h
    unfold slices_IndexFunc_int64_int64_l2 at h
    refine Go.seq ?_
    refine Go.r0 c150 rfl rfl (sq z150 (oBi rfl rfl rfl rfl) <| nl) ?_
    refine Unw.seq ?_
    refine Go.seq ?_
    by_cases hc5 : t_8_l2 < (s_0.length : Int)
    · rw [if_pos hc5] at h
      refine Go.condT rfl (iDec.2 hc5) ?_
      refine Go.skip ?_
      refine Unw.seq ?_
      refine Go.seq ?_
      refine Go.block ?_
      refine Go.seq ?_
      refine Go.r0 c150 rfl rfl (sq z150 (oMv rfl rfl) <| sq z150 (oAsI rfl rfl) <| nl) ?_
      refine Unw.seq ?_
      refine Go.seq ?_
      obtain ⟨x14, hx14, h⟩ := bs h
      obtain ⟨x16, hx16, h⟩ := bs h
      refine Go.r0 c150 rfl rfl (sq z150 (oMv rfl rfl) <| sq z150 (oMv rfl rfl) <| sq z150 (oMv rfl rfl) <| sq z150 (oIAI rfl hx14 sF27 rfl rfl) <| sq z150 (oLd (cs := [.im 2 _]) rfl tF2 rfl rfl) <| sq z150 (oCa (xs := [.v false [.im 2 _], .v false [.im 2 _]]) (vs := [(false, [.im 0 _])]) (v := .v false [.im 0 _]) (L_impl_GreedyMatches_c1 hx16) (.inr ⟨_, _, rfl, rfl⟩) rfl kF151_2_0 rfl (ppC rfl (ppC rfl pp0)) rfl rfl pb0 rfl rfl rfl) <| nl) ?_
      refine Unw.seq ?_
      by_cases hc6 : x16 = true
      · rw [if_pos hc6] at h
        refine Go.condT rfl (Iff.rfl.2 hc6) ?_
        refine Go.seq ?_
        refine Go.r0 c150 rfl rfl (sq z150 (oMv rfl rfl) <| sq z150 (oAsI rfl rfl) <| nl) ?_
        refine Unw.seq ?_
        refine Go.ret (Unw.ret ?_)
        cases h
        exact ⟨rfl, (fin_of rfl rF150 rfl (by kernel_rfl))⟩
      · rw [if_neg hc6] at h
        refine Go.condF rfl (byF Iff.rfl hc6) ?_
        refine Go.skip ?_
        refine Unw.blk ?_
        refine Unw.seq ?_
        refine Go.r0 c150 rfl rfl (sq z150 (oBi rfl rfl rfl rfl) <| sq z150 (oMv rfl rfl) <| nl) ?_
        refine Unw.nil ?_
        cases h
        exact ⟨rfl, (by kernel_rfl)⟩
    · rw [if_neg hc5] at h
      refine Go.condF rfl (byF iDec hc5) ?_
      refine Go.exit ?_
      refine Unw.seqx ?_
      refine Unw.nil ?_
      cases h
      exact ⟨rfl, (by kernel_rfl)⟩
  · rintro ⟨e, st⟩ hp
    rcases o with u | r2
    · dsimp only at h
      obtain ⟨he, hst⟩ := hp
      obtain rfl : e = .exit 0 := he
      refine Unw.blkx ?_
      refine Unw.seq ?_
      refine Go.seq ?_
      refine Go.r1 c150 rfl rfl hst (sq z150 (oAsI rfl rfl) <| nl) ?_
      refine Unw.seq ?_
      refine Go.ret (Unw.ret ?_)
      cases h
      exact Fin_ret (fin_of rfl rF150 rfl (by kernel_rfl))
    · dsimp only at h
      obtain ⟨he, hfin⟩ := hp
      obtain rfl : e = .ret := he
      cases h
      exact Unw.ret (Fin_ret hfin)
theorem L_impl_GreedyMatches {targets_0 : (List S_Feature)} {stock_1 : (List S_Feature)} {r : ((List Int) × Int)} (h : impl_GreedyMatches targets_0 stock_1 = some r) : FL Try.prog cfg 66 [.im 2 false [.row 2 (List.map e_S_Feature targets_0)], .im 2 false [.row 2 (List.map e_S_Feature stock_1)]] = some ([(false, [.ow 0 1 (List.map eI r.1)]), (false, [.im 0 (.sc (.int .i64 r.2))])], []) := by
  unfold impl_GreedyMatches at h
  refine FL_goS (A := [(0, .v false [.im 2 (.row 2 (List.map e_S_Feature targets_0))]), (1, .v false [.im 2 (.row 2 (List.map e_S_Feature stock_1))])]) (B := [(0, none), (1, none)]) (nt := 44) rfl rfl Try.func66 rfl rfl rfl rfl ?_
  refine Go.seq ?_
  refine Go.r0 c66 rfl rfl (sq z66 (oAsN rfl rfl eF27) <| sq z66 (oAsI rfl rfl) <| nl) ?_
  refine Unw.seq ?_
  refine Go.seq ?_
  refine Go.seq ?_
  obtain ⟨x15, hx15, h⟩ := bs h
  refine Go.r0 c66 rfl rfl (sq z66 (oMv rfl rfl) <| sq z66 (oMv rfl rfl) <| sq z66 (oCa (xs := [.v false [.im 2 _], .v false [.im 2 _], .v false [.im 0 _]]) (vs := [(false, [.im 0 _])]) (v := .v false [.im 0 _]) (L_impl_matchesCode hx15) (.inl rfl) rfl kF130_73_73_2 rfl (ppC rfl (ppC rfl (ppC rfl pp0))) rfl rfl pb0 rfl rfl rfl) <| sq z66 (oAsI rfl rfl) <| nl) ?_
  refine Unw.seq ?_
  refine Go.seq ?_
  refine Go.r0 c66 rfl rfl (sq z66 (oMv rfl rfl) <| sq z66 (oBi rfl rfl rfl rfl) <| nl) ?_
  refine Unw.seq ?_
  by_cases hc1 : x15 ≠ 0
  · rw [if_pos hc1] at h
    refine Go.condT rfl (iNe.2 hc1) ?_
    refine Go.seq ?_
    refine Go.r0 c66 rfl rfl (sq z66 (oMv rfl rfl) <| sq z66 (oAsN rfl rfl eF27) <| sq z66 (oAsI rfl rfl) <| nl) ?_
    refine Unw.seq ?_
    refine Go.ret (Unw.ret ?_)
    cases h
    exact Fin_ret (fin_of rfl rF66 rfl (by kernel_rfl))
  · rw [if_neg hc1] at h
    refine Go.condF rfl (byF iNe hc1) ?_
    refine Go.skip ?_
    refine Unw.seq ?_
    refine Go.seq ?_
    refine Go.r0 c66 rfl rfl (sq z66 (oBS (es := List.map eI ([] : List Int)) rfl sF27 rfl pt0 (flat0 rfl fun _ => rfl)) <| sq z66 (oAl rfl tF27 (tkN tk0)) <| sq z66 (oSt tF27 rfl rfl rfl (tkO rfl rfl tk0) rfl rfl rfl) <| nl) ?_
    refine Unw.seq ?_
    refine Go.seq ?_
    refine Go.seq ?_
    refine Go.r1 c66 rfl rfl (st1 := mk [(0, .v false [.im 2 (.row 2 (List.map e_S_Feature targets_0))]), (1, .v false [.im 2 (.row 2 (List.map e_S_Feature stock_1))]), (7, .v false [.mp 7 0 0])] [(7, some ⟨0, 0, false, true, false, false, [⟨.sh, 0, 0, .row 1 (List.map eI ([] : List Int))⟩]⟩)]) (by kernel_rfl) (sq z66 (oMv rfl rfl) <| sq z66 (oLnI rfl rfl uF73 rfl) <| sq z66 (oMv rfl rfl) <| nl) ?_
    refine Unw.seq ?_
    refine Go.block ?_
    obtain ⟨o, hl, h⟩ := bs h
    refine Go.lp c66 rfl _ (fun (s : (Int × (List Int))) => match s with | (t_22_l6, out_o7_l6) => mk [(1, .v false [.im 2 (.row 2 (List.map e_S_Feature stock_1))]), (7, .v false [.mp 7 0 0]), (20, .v false [.im 2 (.row 2 (List.map e_S_Feature targets_0))]), (21, iv (targets_0.length : Int)), (22, iv t_22_l6)] [(7, some ⟨0, 0, false, true, false, false, [⟨.sh, 0, 0, .row 1 (List.map eI out_o7_l6)⟩]⟩)]) (fun (out_o7_e0_6 : (List Int)) (p : Ex × St) => p.1 = .exit 0 ∧ p.2.norm ([7], [7]) = mk [(7, .v false [.mp 7 0 0])] [(7, some ⟨0, 0, false, true, false, false, [⟨.sh, 0, 0, .row 1 (List.map eI out_o7_e0_6)⟩]⟩)]) hl (by kernel_rfl) ?_ ?_ ?_
    · intro o p hp e
      exact nomatch (hp.1.symm.trans e)
    · rintro ⟨t_22_l6, out_o7_l6⟩ o h
      unfold impl_GreedyMatches_l6 at h
      dsimp only at h
      refine Go.seq ?_
      refine Go.r0 c66 rfl rfl (sq z66 (oBi rfl rfl rfl rfl) <| nl) ?_
      refine Unw.seq ?_
      refine Go.seq ?_
      by_cases hc4 : t_22_l6 < (targets_0.length : Int)
      · rw [if_pos hc4] at h
        refine Go.condT rfl (iDec.2 hc4) ?_
        refine Go.skip ?_
        refine Unw.seq ?_
        refine Go.seq ?_
        refine Go.block ?_
        refine Go.seq ?_
        obtain ⟨x24, hx24, h⟩ := bs h
        refine Go.r0 c66 rfl rfl (sq z66 (oIAI rfl hx24 sF73 rfl rfl) <| sq z66 (oLd (cs := [.im 2 _, .im 2 _]) rfl tF194 rfl rfl) <| sq z66 (oAl rfl tF194 (tkI (tkN tk0))) <| sq z66 (oSt tF194 rfl rfl rfl (tkI (tkI tk0)) rfl rfl rfl) <| nl) ?_
        refine Unw.seq ?_
        refine Go.seq ?_
        obtain ⟨x29, hx29, h⟩ := bs h
        refine Go.r1 c66 rfl rfl (st1 := mk [(1, .v false [.im 2 (.row 2 (List.map e_S_Feature stock_1))]), (7, .v false [.mp 7 0 0]), (9, .v false [.mp 9 0 0]), (20, .v false [.im 2 (.row 2 (List.map e_S_Feature targets_0))]), (21, iv (targets_0.length : Int)), (22, iv t_22_l6)] [(7, some ⟨0, 0, false, true, false, false, [⟨.sh, 0, 0, .row 1 (List.map eI out_o7_l6)⟩]⟩), (9, some ⟨0, 0, false, true, false, true, [⟨.imm, 0, 0, .sc (.string x24.Id)⟩, ⟨.imm, 0, 2, .row 1 (List.map eI x24.Values)⟩]⟩)]) (by kernel_rfl) (sq z66 (oMv rfl rfl) <| sq z66 (oLd (cs := [.im 0 _, .im 2 _]) rfl tF194 rfl rfl) <| sq z66 (oCr (xs := [.v false [.im 2 _], .v true [.im 0 _, .im 2 _]]) (vs := [(false, [.own 29 0 0]), (false, [.im 0 _])]) (v := .tup [(false, [.own 29 0 0]), (false, [.im 0 _])]) (c := ⟨.sh, 0, _⟩) (cs := []) (L_impl_RankedFeatures hx29) (.inl rfl) rfl kF149_73_194 rfl (ppC rfl (ppC rfl pp0)) rfl rfl pb0 rfl rfl rfl) <| sq z66 (oMvT rfl rfl) <| sq z66 (oEx rfl rfl rfl) <| sq z66 (oEx rfl rfl rfl) <| sq z66 (oAsO rfl rfl rfl rfl rfl) <| sq z66 (oAsI rfl rfl) <| nl) ?_
        refine Unw.seq ?_
        refine Go.seq ?_
        obtain ⟨x34, hx34, h⟩ := bs h
        refine Go.r0 c66 rfl rfl (sq z66 (oMv rfl rfl) <| sq z66 (oMF (rs := [.mp 7 0 0]) rfl rfl) <| sq z66 (oCa (xs := [.v false [.own 10 0 0], .fn 151 [.mp 7 0 0]]) (vs := [(false, [.im 0 _])]) (v := .v false [.im 0 _]) (L_slices_IndexFunc_int64_int64_151 hx34) (.inl rfl) rfl kF150_27_139 rfl (ppC rfl (ppC rfl pp0)) rfl rfl pb0 rfl rfl rfl) <| sq z66 (oAsI rfl rfl) <| nl) ?_
        refine Unw.seq ?_
        obtain ⟨x38, hx38, h⟩ := bs h
        obtain ⟨x41, hx41, h⟩ := bs h
        refine Go.dr c66 rfl rfl rfl rfl (mk [(1, .v false [.im 2 (.row 2 (List.map e_S_Feature stock_1))]), (7, .v false [.mp 7 0 0]), (20, .v false [.im 2 (.row 2 (List.map e_S_Feature targets_0))]), (21, iv (targets_0.length : Int)), (22, iv t_22_l6)] [(7, some ⟨0, 0, false, true, false, false, [⟨.sh, 0, 0, .row 1 (List.map eI x41)⟩]⟩)]) (sT rfl (dN z66 rfl (oMv rfl rfl)) <| sT rfl (dN z66 rfl (oMv rfl rfl)) <| sT rfl (dN z66 rfl (oIAO rfl hx38 sF27 rfl rfl rfl rfl)) <| sT rfl (dN z66 rfl (oLdE (cs := [.im 0 _]) rfl tF2 rfl rfl rfl (fun e => nomatch e) (rd_get hx38) rfl rfl)) <| sK (O := [7]) rfl rfl rfl (dN z66 rfl (oLd (cs := [.own 7 0 0]) rfl tF27 rfl rfl)) <| sS (dN z66 rfl (oBS (es := List.map eI ([x38] : List Int)) rfl sF27 rfl (ptC rfl (fxI fx0) rfl pt0) (flat0 rfl fun _ => rfl))) (kY ⟨rfl, trivial⟩ trivial) (sS (dN z66 rfl (oApO (en := eI) (M := ([x38] : List Int)) rfl hx41 rfl sF27 rfl rfl uF27 (.inl ⟨_, rfl⟩) rfl rfl rfl rfl (el_own rfl rfl) (flat0 rfl fun _ => rfl))) (kN rfl trivial) (sS (dN z66 rfl (oSt tF27 rfl rfl rfl (tkO rfl rfl tk0) rfl rfl rfl)) (kN rfl trivial) (sD (by kernel_rfl))))) ?_
        refine Unw.blk ?_
        refine Unw.seq ?_
        refine Go.r0 c66 rfl rfl (sq z66 (oBi rfl rfl rfl rfl) <| sq z66 (oMv rfl rfl) <| nl) ?_
        refine Unw.nil ?_
        cases h
        exact ⟨rfl, (by kernel_rfl)⟩
      · rw [if_neg hc4] at h
        refine Go.condF rfl (byF iDec hc4) ?_
        refine Go.exit ?_
        refine Unw.seqx ?_
        refine Unw.nil ?_
        cases h
        exact ⟨rfl, (by kernel_rfl)⟩
    · rintro ⟨e, st⟩ hp
      obtain ⟨out_o7_e0_6, rfl⟩ : ∃ y, y = o := ⟨o, rfl⟩
      obtain ⟨he, hst⟩ := hp
      obtain rfl : e = .exit 0 := he
      refine Unw.blkx ?_
      refine Unw.seq ?_
      refine Go.seq ?_
      refine Go.r1 c66 rfl rfl hst (sq z66 (oLd (cs := [.own 7 0 0]) rfl tF27 rfl rfl) <| sq z66 (oAsO rfl rfl rfl rfl rfl) <| sq z66 (oAsI rfl rfl) <| nl) ?_
      refine Unw.seq ?_
      refine Go.ret (Unw.ret ?_)
      cases h
      exact Fin_ret (fin_of rfl rF66 rfl (by kernel_rfl))
theorem L_impl_isFaceOrder {list_0 : (List Int)} {n_1 : Int} {r : Bool} (h : impl_isFaceOrder list_0 n_1 = some r) : FL Try.prog cfg 154 [.im 2 false [.row 1 (List.map eI list_0)], .im 2 false [.sc (.int .i64 n_1)]] = some ([(false, [.im 0 (.sc (.bool r))])], []) := by
  unfold impl_isFaceOrder at h
  refine FL_goS (A := [(0, .v false [.im 2 (.row 1 (List.map eI list_0))]), (1, .v false [.im 2 (.sc (.int .i64 n_1))])]) (B := [(0, none), (1, none)]) (nt := 27) rfl rfl Try.func154 rfl rfl rfl rfl ?_
  refine Go.seq ?_
  refine Go.r0 c154 rfl rfl (sq z154 (oAsI rfl rfl) <| nl) ?_
  refine Unw.seq ?_
  refine Go.seq ?_
  refine Go.seq ?_
  refine Go.r0 c154 rfl rfl (sq z154 (oMv rfl rfl) <| sq z154 (oLnI rfl rfl uF27 rfl) <| sq z154 (oMv rfl rfl) <| nl) ?_
  refine Unw.seq ?_
  refine Go.block ?_
  obtain ⟨o, hl, h⟩ := bs h
  refine Go.lp c154 rfl _ (fun (t_9_l2 : Int) => mk [(0, .v false [.im 2 (.row 1 (List.map eI list_0))]), (1, iv n_1), (7, .v false [.im 2 (.row 1 (List.map eI list_0))]), (8, iv (list_0.length : Int)), (9, iv t_9_l2)] []) (fun (o : (Unit ⊕ Bool)) (p : Ex × St) => match o with | (.inl _) => p.1 = .exit 0 ∧ p.2.norm ([], []) = mk [] [] | (.inr r2) => p.1 = .ret ∧ fin Try.prog cfg 154 Try.f154 [.im 2 false [.row 1 (List.map eI list_0)], .im 2 false [.sc (.int .i64 n_1)]] p.2 = some ([(false, [.im 0 (.sc (.bool r2))])], [])) hl (by kernel_rfl) ?_ ?_ ?_
  · intro o p hp e
    rcases o with u | r2 <;> exact nomatch (hp.1.symm.trans e)
  · rintro t_9_l2 o h
    unfold impl_isFaceOrder_l2 at h
    refine Go.seq ?_
    refine Go.r0 c154 rfl rfl (sq z154 (oBi rfl rfl rfl rfl) <| nl) ?_
    refine Unw.seq ?_
    refine Go.seq ?_
    by_cases hc9 : t_9_l2 < (list_0.length : Int)
    · rw [if_pos hc9] at h
      refine Go.condT rfl (iDec.2 hc9) ?_
      refine Go.skip ?_
      refine Unw.seq ?_
      refine Go.seq ?_
      refine Go.block ?_
      refine Go.seq ?_
      obtain ⟨x12, hx12, h⟩ := bs h
      refine Go.r0 c154 rfl rfl (sq z154 (oMv rfl rfl) <| sq z154 (oIAI rfl hx12 sF27 rfl rfl) <| sq z154 (oLd (cs := [.im 2 _]) rfl tF2 rfl rfl) <| sq z154 (oAsI rfl rfl) <| sq z154 (oAsI rfl rfl) <| nl) ?_
      refine Unw.seq ?_
      refine Go.seq ?_
      obtain ⟨x17, hx17, h⟩ := bs h
      obtain ⟨t_25_m4, hm12, h⟩ := bs h
      refine Go.rX c154 rfl rfl rfl (mk [(0, .v false [.im 2 (.row 1 (List.map eI list_0))]), (1, iv n_1), (7, .v false [.im 2 (.row 1 (List.map eI list_0))]), (8, iv (list_0.length : Int)), (9, iv t_9_l2), (25, bv t_25_m4)] []) ?_ ?_
      · by_cases hc10 : x17 = true
        · rw [if_pos hc10] at hm12
          obtain ⟨x22, hx22, hm12⟩ := bs hm12
          obtain ⟨x24, hx24, hm12⟩ := bs hm12
          cases hm12
          exact ⟨_, sq z154 (oMv rfl rfl) <| sq z154 (oMv rfl rfl) <| sq z154 (oBi rfl rfl rfl rfl) <| sq z154 (oCa (xs := [.v false [.im 2 _], .v false [.im 0 _], .v false [.im 0 _]]) (vs := [(false, [.im 0 _])]) (v := .v false [.im 0 _]) (L_impl_within hx17) (.inl rfl) rfl kF92_2_2_2 rfl (ppC rfl (ppC rfl (ppC rfl pp0))) rfl rfl pb0 rfl rfl rfl) <| sq z154 (oUn rfl rfl rfl) <| sq z154 (oMv rfl rfl) <| sgT z154 rfl rfl (nF (Iff.rfl.2 hc10)) (oMv rfl rfl) <| sgT z154 rfl rfl (nF (Iff.rfl.2 hc10)) (oMv rfl rfl) <| sgT z154 rfl rfl (nF (Iff.rfl.2 hc10)) (oSlI rfl hx22 sF27 rfl bn0 (bn1 rfl) rfl rfl) <| sgT z154 rfl rfl (nF (Iff.rfl.2 hc10)) (oMv rfl rfl) <| sgT z154 rfl rfl (nF (Iff.rfl.2 hc10)) (oCa (xs := [.v false [.im 2 _], .v false [.im 2 _]]) (vs := [(false, [.im 0 _])]) (v := .v false [.im 0 _]) (L_slices_Contains_int64_int64 hx24) (.inl rfl) rfl kF152_27_2 rfl (ppC rfl (ppC rfl pp0)) rfl rfl pb0 rfl rfl rfl) <| sq z154 (oPkF rfl rfl (nF (Iff.rfl.2 hc10)) rfl) <| nl, (by kernel_rfl)⟩
        · rw [if_neg hc10] at hm12
          cases hm12
          exact ⟨_, sq z154 (oMv rfl rfl) <| sq z154 (oMv rfl rfl) <| sq z154 (oBi rfl rfl rfl rfl) <| sq z154 (oCa (xs := [.v false [.im 2 _], .v false [.im 0 _], .v false [.im 0 _]]) (vs := [(false, [.im 0 _])]) (v := .v false [.im 0 _]) (L_impl_within hx17) (.inl rfl) rfl kF92_2_2_2 rfl (ppC rfl (ppC rfl (ppC rfl pp0))) rfl rfl pb0 rfl rfl rfl) <| sq z154 (oUn rfl rfl rfl) <| sq z154 (oMv rfl rfl) <| sgF rfl rfl (nT (byF Iff.rfl hc10)) rfl <| sgF rfl rfl (nT (byF Iff.rfl hc10)) rfl <| sgF rfl rfl (nT (byF Iff.rfl hc10)) rfl <| sgF rfl rfl (nT (byF Iff.rfl hc10)) rfl <| sgF rfl rfl (nT (byF Iff.rfl hc10)) rfl <| sq z154 (oPkT rfl rfl (nT (byF Iff.rfl hc10)) rfl) <| nl, (by kernel_rfl)⟩
      · refine Unw.seq ?_
        by_cases hc11 : t_25_m4 = true
        · rw [if_pos hc11] at h
          refine Go.condT rfl (Iff.rfl.2 hc11) ?_
          refine Go.seq ?_
          refine Go.r0 c154 rfl rfl (sq z154 (oAsI rfl rfl) <| nl) ?_
          refine Unw.seq ?_
          refine Go.ret (Unw.ret ?_)
          cases h
          exact ⟨rfl, (fin_of rfl rF154 rfl (by kernel_rfl))⟩
        · rw [if_neg hc11] at h
          refine Go.condF rfl (byF Iff.rfl hc11) ?_
          refine Go.skip ?_
          refine Unw.blk ?_
          refine Unw.seq ?_
          refine Go.r0 c154 rfl rfl (sq z154 (oBi rfl rfl rfl rfl) <| sq z154 (oMv rfl rfl) <| nl) ?_
          refine Unw.nil ?_
          cases h
          exact ⟨rfl, (by kernel_rfl)⟩
    · rw [if_neg hc9] at h
      refine Go.condF rfl (byF iDec hc9) ?_
      refine Go.exit ?_
      refine Unw.seqx ?_
      refine Unw.nil ?_
      cases h
      exact ⟨rfl, (by kernel_rfl)⟩
  · rintro ⟨e, st⟩ hp
    rcases o with u | r2
    · dsimp only at h
      obtain ⟨he, hst⟩ := hp
      obtain rfl : e = .exit 0 := he
      refine Unw.blkx ?_
      refine Unw.seq ?_
      refine Go.seq ?_
      refine Go.r1 c154 rfl rfl hst (sq z154 (oAsI rfl rfl) <| nl) ?_
      refine Unw.seq ?_
      refine Go.ret (Unw.ret ?_)
      cases h
      exact Fin_ret (fin_of rfl rF154 rfl (by kernel_rfl))
    · dsimp only at h
      obtain ⟨he, hfin⟩ := hp
      obtain rfl : e = .ret := he
      cases h
      exact Unw.ret (Fin_ret hfin)
theorem L_impl_MatchesScore {targets_0 : (List S_Feature)} {stock_1 : (List S_Feature)} {matches_2 : (List Int)} {r : (Int × Int)} (h : impl_MatchesScore targets_0 stock_1 matches_2 = some r) : FL Try.prog cfg 67 [.im 2 false [.row 2 (List.map e_S_Feature targets_0)], .im 2 false [.row 2 (List.map e_S_Feature stock_1)], .im 2 false [.row 1 (List.map eI matches_2)]] = some ([(false, [.im 0 (.sc (.int .i64 r.1))]), (false, [.im 0 (.sc (.int .i64 r.2))])], []) := by
  unfold impl_MatchesScore at h
  refine FL_goS (A := [(0, .v false [.im 2 (.row 2 (List.map e_S_Feature targets_0))]), (1, .v false [.im 2 (.row 2 (List.map e_S_Feature stock_1))]), (2, .v false [.im 2 (.row 1 (List.map eI matches_2))])]) (B := [(0, none), (1, none), (2, none)]) (nt := 53) rfl rfl Try.func67 rfl rfl rfl rfl ?_
  refine Go.seq ?_
  refine Go.r0 c67 rfl rfl (sq z67 (oAsI rfl rfl) <| sq z67 (oAsI rfl rfl) <| nl) ?_
  refine Unw.seq ?_
  refine Go.seq ?_
  refine Go.block ?_
  refine Go.seq ?_
  obtain ⟨x13, hx13, h⟩ := bs h
  obtain ⟨t_11_m1, hm9, h⟩ := bs h
  refine Go.rX c67 rfl rfl rfl (mk [(0, .v false [.im 2 (.row 2 (List.map e_S_Feature targets_0))]), (1, .v false [.im 2 (.row 2 (List.map e_S_Feature stock_1))]), (2, .v false [.im 2 (.row 1 (List.map eI matches_2))]), (11, bv t_11_m1)] []) ?_ ?_
  · by_cases hc1 : x13 = true
    · rw [if_pos hc1] at hm9
      obtain ⟨x17, hx17, hm9⟩ := bs hm9
      cases hm9
      exact ⟨_, sq z67 (oMv rfl rfl) <| sq z67 (oCa (xs := [.v false [.im 2 _]]) (vs := [(false, [.im 0 _])]) (v := .v false [.im 0 _]) (L_impl_ValidFeatures hx13) (.inl rfl) rfl kF153_73 rfl (ppC rfl pp0) rfl rfl pb0 rfl rfl rfl) <| sq z67 (oUn rfl rfl rfl) <| sq z67 (oMv rfl rfl) <| sgT z67 rfl rfl (nF (Iff.rfl.2 hc1)) (oMv rfl rfl) <| sgT z67 rfl rfl (nF (Iff.rfl.2 hc1)) (oCa (xs := [.v false [.im 2 _]]) (vs := [(false, [.im 0 _])]) (v := .v false [.im 0 _]) (L_impl_ValidFeatures hx17) (.inl rfl) rfl kF153_73 rfl (ppC rfl pp0) rfl rfl pb0 rfl rfl rfl) <| sgT z67 rfl rfl (nF (Iff.rfl.2 hc1)) (oUn rfl rfl rfl) <| sq z67 (oPkF rfl rfl (nF (Iff.rfl.2 hc1)) rfl) <| sq z67 (oAsI rfl rfl) <| nl, (by kernel_rfl)⟩
    · rw [if_neg hc1] at hm9
      cases hm9
      exact ⟨_, sq z67 (oMv rfl rfl) <| sq z67 (oCa (xs := [.v false [.im 2 _]]) (vs := [(false, [.im 0 _])]) (v := .v false [.im 0 _]) (L_impl_ValidFeatures hx13) (.inl rfl) rfl kF153_73 rfl (ppC rfl pp0) rfl rfl pb0 rfl rfl rfl) <| sq z67 (oUn rfl rfl rfl) <| sq z67 (oMv rfl rfl) <| sgF rfl rfl (nT (byF Iff.rfl hc1)) rfl <| sgF rfl rfl (nT (byF Iff.rfl hc1)) rfl <| sgF rfl rfl (nT (byF Iff.rfl hc1)) rfl <| sq z67 (oPkT rfl rfl (nT (byF Iff.rfl hc1)) rfl) <| sq z67 (oAsI rfl rfl) <| nl, (by kernel_rfl)⟩
  · refine Unw.seq ?_
    by_cases hc2 : t_11_m1 = true
    · rw [if_pos hc2] at h
      refine Go.condT rfl (Iff.rfl.2 hc2) ?_
      refine Go.seq ?_
      refine Go.r0 c67 rfl rfl (sq z67 (oAsI rfl rfl) <| sq z67 (oAsI rfl rfl) <| nl) ?_
      refine Unw.seq ?_
      refine Go.ret (Unw.ret ?_)
      cases h
      exact Fin_ret (fin_of rfl rF67 rfl (by kernel_rfl))
    · rw [if_neg hc2] at h
      refine Go.condF rfl (byF Iff.rfl hc2) ?_
      refine Go.seq ?_
      obtain ⟨t_20_m3, hm8, h⟩ := bs h
      refine Go.rX c67 rfl rfl rfl (mk [(0, .v false [.im 2 (.row 2 (List.map e_S_Feature targets_0))]), (1, .v false [.im 2 (.row 2 (List.map e_S_Feature stock_1))]), (2, .v false [.im 2 (.row 1 (List.map eI matches_2))]), (20, bv t_20_m3)] []) ?_ ?_
      · by_cases hc3 : (matches_2.length : Int) ≠ (targets_0.length : Int)
        · rw [if_pos hc3] at hm8
          cases hm8
          exact ⟨_, sq z67 (oMv rfl rfl) <| sq z67 (oLnI rfl rfl uF27 rfl) <| sq z67 (oMv rfl rfl) <| sq z67 (oLnI rfl rfl uF73 rfl) <| sq z67 (oBi rfl rfl rfl rfl) <| sq z67 (oMv rfl rfl) <| sgF rfl rfl (iNe.2 hc3) rfl <| sgF rfl rfl (iNe.2 hc3) rfl <| sgF rfl rfl (iNe.2 hc3) rfl <| sgF rfl rfl (iNe.2 hc3) rfl <| sgF rfl rfl (iNe.2 hc3) rfl <| sq z67 (oPkT rfl rfl (iNe.2 hc3) rfl) <| sq z67 (oAsI rfl rfl) <| nl, (by kernel_rfl)⟩
        · rw [if_neg hc3] at hm8
          obtain ⟨x30, hx30, hm8⟩ := bs hm8
          cases hm8
          exact ⟨_, sq z67 (oMv rfl rfl) <| sq z67 (oLnI rfl rfl uF27 rfl) <| sq z67 (oMv rfl rfl) <| sq z67 (oLnI rfl rfl uF73 rfl) <| sq z67 (oBi rfl rfl rfl rfl) <| sq z67 (oMv rfl rfl) <| sgT z67 rfl rfl (byF iNe hc3) (oMv rfl rfl) <| sgT z67 rfl rfl (byF iNe hc3) (oMv rfl rfl) <| sgT z67 rfl rfl (byF iNe hc3) (oLnI rfl rfl uF73 rfl) <| sgT z67 rfl rfl (byF iNe hc3) (oCa (xs := [.v false [.im 2 _], .v false [.im 0 _]]) (vs := [(false, [.im 0 _])]) (v := .v false [.im 0 _]) (L_impl_isFaceOrder hx30) (.inl rfl) rfl kF154_27_3 rfl (ppC rfl (ppC rfl pp0)) rfl rfl pb0 rfl rfl rfl) <| sgT z67 rfl rfl (byF iNe hc3) (oUn rfl rfl rfl) <| sq z67 (oPkF rfl rfl (byF iNe hc3) rfl) <| sq z67 (oAsI rfl rfl) <| nl, (by kernel_rfl)⟩
      · refine Unw.seq ?_
        by_cases hc4 : t_20_m3 = true
        · rw [if_pos hc4] at h
          refine Go.condT rfl (Iff.rfl.2 hc4) ?_
          refine Go.seq ?_
          refine Go.r0 c67 rfl rfl (sq z67 (oAsI rfl rfl) <| sq z67 (oAsI rfl rfl) <| nl) ?_
          refine Unw.seq ?_
          refine Go.ret (Unw.ret ?_)
          cases h
          exact Fin_ret (fin_of rfl rF67 rfl (by kernel_rfl))
        · rw [if_neg hc4] at h
          refine Go.condF rfl (byF Iff.rfl hc4) ?_
          refine Go.skip ?_
          refine Unw.blk ?_
          refine Unw.seq ?_
          refine Go.seq ?_
          refine Go.r0 c67 rfl rfl (sq z67 (oAsI rfl rfl) <| nl) ?_
          refine Unw.seq ?_
          refine Go.seq ?_
          refine Go.seq ?_
          refine Go.r0 c67 rfl rfl (sq z67 (oMv rfl rfl) <| sq z67 (oLnI rfl rfl uF27 rfl) <| sq z67 (oMv rfl rfl) <| nl) ?_
          refine Unw.seq ?_
          refine Go.block ?_
          obtain ⟨o, hl, h⟩ := bs h
          refine Go.lp c67 rfl _ (fun (s : (Int × Int)) => match s with | (sum_8_l7, t_35_l7) => mk [(0, .v false [.im 2 (.row 2 (List.map e_S_Feature targets_0))]), (1, .v false [.im 2 (.row 2 (List.map e_S_Feature stock_1))]), (8, iv sum_8_l7), (33, .v false [.im 2 (.row 1 (List.map eI matches_2))]), (34, iv (matches_2.length : Int)), (35, iv t_35_l7)] []) (fun (sum_8_e1_7 : Int) (p : Ex × St) => p.1 = .exit 1 ∧ p.2.norm ([8], []) = mk [(8, iv sum_8_e1_7)] []) hl (by kernel_rfl) ?_ ?_ ?_
          · intro o p hp e
            exact nomatch (hp.1.symm.trans e)
          · rintro ⟨sum_8_l7, t_35_l7⟩ o h
            unfold impl_MatchesScore_l7 at h
            dsimp only at h
            refine Go.seq ?_
            refine Go.r0 c67 rfl rfl (sq z67 (oBi rfl rfl rfl rfl) <| nl) ?_
            refine Unw.seq ?_
            refine Go.seq ?_
            by_cases hc7 : t_35_l7 < (matches_2.length : Int)
            · rw [if_pos hc7] at h
              refine Go.condT rfl (iDec.2 hc7) ?_
              refine Go.skip ?_
              refine Unw.seq ?_
              refine Go.seq ?_
              refine Go.block ?_
              refine Go.seq ?_
              obtain ⟨x38, hx38, h⟩ := bs h
              refine Go.r0 c67 rfl rfl (sq z67 (oMv rfl rfl) <| sq z67 (oIAI rfl hx38 sF27 rfl rfl) <| sq z67 (oLd (cs := [.im 2 _]) rfl tF2 rfl rfl) <| sq z67 (oAsI rfl rfl) <| sq z67 (oAsI rfl rfl) <| nl) ?_
              refine Unw.seq ?_
              obtain ⟨x43, hx43, h⟩ := bs h
              obtain ⟨x47, hx47, h⟩ := bs h
              obtain ⟨x49, hx49, h⟩ := bs h
              refine Go.dr c67 rfl rfl rfl rfl (mk [(0, .v false [.im 2 (.row 2 (List.map e_S_Feature targets_0))]), (1, .v false [.im 2 (.row 2 (List.map e_S_Feature stock_1))]), (8, iv (w64 (sum_8_l7 + x49))), (33, .v false [.im 2 (.row 1 (List.map eI matches_2))]), (34, iv (matches_2.length : Int)), (35, iv t_35_l7)] []) (sT rfl (dN z67 rfl (oMv rfl rfl)) <| sT rfl (dN z67 rfl (oMv rfl rfl)) <| sT rfl (dN z67 rfl (oMv rfl rfl)) <| sT rfl (dN z67 rfl (oIAI rfl hx43 sF73 rfl rfl)) <| sT rfl (dN z67 rfl (oLd (cs := [.im 2 _, .im 2 _]) rfl tF194 rfl rfl)) <| sT rfl (dN z67 rfl (oMv rfl rfl)) <| sT rfl (dN z67 rfl (oMv rfl rfl)) <| sT rfl (dN z67 rfl (oIAI rfl hx47 sF73 rfl rfl)) <| sT rfl (dN z67 rfl (oLd (cs := [.im 2 _, .im 2 _]) rfl tF194 rfl rfl)) <| sS (dN z67 rfl (oCa (xs := [.v true [.im 2 _, .im 2 _], .v true [.im 2 _, .im 2 _]]) (vs := [(false, [.im 0 _])]) (v := .v false [.im 0 _]) (L_impl_featureDistance hx49) (.inl rfl) rfl kF155_194_194 rfl (ppC rfl (ppC rfl pp0)) rfl rfl pb0 rfl rfl rfl)) trivial (sT rfl (dN z67 rfl (oBi rfl rfl rfl rfl)) <| sS (dN z67 rfl (oAsI rfl rfl)) trivial (sD (by kernel_rfl)))) ?_
              refine Unw.blk ?_
              refine Unw.seq ?_
              refine Go.r0 c67 rfl rfl (sq z67 (oBi rfl rfl rfl rfl) <| sq z67 (oMv rfl rfl) <| nl) ?_
              refine Unw.nil ?_
              cases h
              exact ⟨rfl, (by kernel_rfl)⟩
            · rw [if_neg hc7] at h
              refine Go.condF rfl (byF iDec hc7) ?_
              refine Go.exit ?_
              refine Unw.seqx ?_
              refine Unw.nil ?_
              cases h
              exact ⟨rfl, (by kernel_rfl)⟩
          · rintro ⟨e, st⟩ hp
            obtain ⟨sum_8_e1_7, rfl⟩ : ∃ y, y = o := ⟨o, rfl⟩
            obtain ⟨he, hst⟩ := hp
            obtain rfl : e = .exit 1 := he
            refine Unw.blkx ?_
            refine Unw.seq ?_
            refine Go.seq ?_
            refine Go.r1 c67 rfl rfl hst (sq z67 (oMv rfl rfl) <| sq z67 (oAsI rfl rfl) <| sq z67 (oAsI rfl rfl) <| nl) ?_
            refine Unw.seq ?_
            refine Go.ret (Unw.ret ?_)
            cases h
            exact Fin_ret (fin_of rfl rF67 rfl (by kernel_rfl))
theorem L_laws_FnMatches {code_0 : (List Int)} {r : Bool} (h : laws_FnMatches code_0 = some r) : FL Try.prog cfg 10 [.im 2 false [.row 1 (List.map (eK .u8) code_0)]] = some ([(false, [.im 0 (.sc (.bool r))])], []) := by
  unfold laws_FnMatches at h
  refine FL_goS (A := [(0, .v false [.im 2 (.row 1 (List.map (eK .u8) code_0))])]) (B := [(0, none)]) (nt := 80) rfl rfl Try.func10 rfl rfl rfl rfl ?_
  refine Go.seq ?_
  refine Go.r0 c10 rfl rfl (sq z10 (oAsI rfl rfl) <| nl) ?_
  refine Unw.seq ?_
  refine Go.seq ?_
  refine Go.seq ?_
  obtain ⟨x16, hx16, h⟩ := bs h
  refine Go.r0 c10 rfl rfl (sq z10 (oMv rfl rfl) <| sq z10 (oCa (xs := [.v false [.im 2 _]]) (vs := [(false, [.im 0 _])]) (v := .v false [.im 0 _]) (L_laws_b10Long hx16) (.inl rfl) rfl kF14_22 rfl (ppC rfl pp0) rfl rfl pb0 rfl rfl rfl) <| nl) ?_
  refine Unw.seq ?_
  by_cases hc1 : x16 = true
  · rw [if_pos hc1] at h
    refine Go.condT rfl (Iff.rfl.2 hc1) ?_
    refine Go.seq ?_
    refine Go.r0 c10 rfl rfl (sq z10 (oAsI rfl rfl) <| nl) ?_
    refine Unw.seq ?_
    refine Go.ret (Unw.ret ?_)
    cases h
    exact Fin_ret (fin_of rfl rF10 rfl (by kernel_rfl))
  · rw [if_neg hc1] at h
    refine Go.condF rfl (byF Iff.rfl hc1) ?_
    refine Go.skip ?_
    refine Unw.seq ?_
    refine Go.seq ?_
    obtain ⟨x19, hx19, h⟩ := bs h
    refine Go.r0 c10 rfl rfl (sq z10 (oMv rfl rfl) <| sq z10 (oCr (xs := [.v false [.im 2 _]]) (vs := [(false, [.own 19 0 0]), (false, [.own 19 0 1]), (false, [.im 0 _])]) (v := .tup [(false, [.own 19 0 0]), (false, [.own 19 0 1]), (false, [.im 0 _])]) (c := ⟨.sh, 0, _⟩) (cs := [⟨.sh, 0, _⟩]) (L_spec_DrawBestMatches hx19) (.inl rfl) rfl kF65_22 rfl (ppC rfl pp0) rfl rfl pb0 rfl rfl rfl) <| sq z10 (oMvT rfl rfl) <| sq z10 (oEx rfl rfl rfl) <| sq z10 (oEx rfl rfl rfl) <| sq z10 (oEx rfl rfl rfl) <| sq z10 (oAsO rfl rfl rfl rfl rfl) <| sq z10 (oAsO rfl rfl rfl rfl rfl) <| sq z10 (oAsI rfl rfl) <| nl) ?_
    refine Unw.seq ?_
    refine Go.seq ?_
    obtain ⟨x27, hx27, h⟩ := bs h
    refine Go.r0 c10 rfl rfl (sq z10 (oMv rfl rfl) <| sq z10 (oMv rfl rfl) <| sq z10 (oMv rfl rfl) <| sq z10 (oCr (xs := [.v false [.own 3 0 0], .v false [.own 4 0 0], .v false [.im 0 _]]) (vs := [(false, [.own 27 0 0]), (false, [.im 0 _]), (false, [.im 0 _])]) (v := .tup [(false, [.own 27 0 0]), (false, [.im 0 _]), (false, [.im 0 _])]) (c := ⟨.sh, 0, _⟩) (cs := []) (L_impl_BestMatches hx27) (.inl rfl) rfl kF50_73_73_2 rfl (ppC rfl (ppC rfl (ppC rfl pp0))) rfl rfl pb0 rfl rfl rfl) <| sq z10 (oMvT rfl rfl) <| sq z10 (oEx rfl rfl rfl) <| sq z10 (oEx rfl rfl rfl) <| sq z10 (oEx rfl rfl rfl) <| sq z10 (oAsO rfl rfl rfl rfl rfl) <| sq z10 (oAsI rfl rfl) <| sq z10 (oAsI rfl rfl) <| nl) ?_
    refine Unw.seq ?_
    refine Go.seq ?_
    obtain ⟨x34, hx34, h⟩ := bs h
    refine Go.r0 c10 rfl rfl (sq z10 (oMv rfl rfl) <| sq z10 (oMv rfl rfl) <| sq z10 (oCr (xs := [.v false [.own 3 0 0], .v false [.own 4 0 0]]) (vs := [(false, [.own 34 0 0]), (false, [.im 0 _])]) (v := .tup [(false, [.own 34 0 0]), (false, [.im 0 _])]) (c := ⟨.sh, 0, _⟩) (cs := []) (L_impl_GreedyMatches hx34) (.inl rfl) rfl kF66_73_73 rfl (ppC rfl (ppC rfl pp0)) rfl rfl pb0 rfl rfl rfl) <| sq z10 (oMvT rfl rfl) <| sq z10 (oEx rfl rfl rfl) <| sq z10 (oEx rfl rfl rfl) <| sq z10 (oAsO rfl rfl rfl rfl rfl) <| sq z10 (oAsI rfl rfl) <| nl) ?_
    refine Unw.seq ?_
    refine Go.seq ?_
    refine Go.seq ?_
    refine Go.r0 c10 rfl rfl (sq z10 (oMv rfl rfl) <| sq z10 (oBi rfl rfl rfl rfl) <| nl) ?_
    refine Unw.seq ?_
    by_cases hc2 : x27.2.2 ≠ 0
    · rw [if_pos hc2] at h
      refine Go.condT rfl (iNe.2 hc2) ?_
      refine Go.seq ?_
      refine Go.rX c10 rfl rfl rfl (mk [(2, bv (((x27.1.length : Int) == 0) && (x27.2.1 == 0)))] []) ?_ ?_
      · by_cases hc3 : (x27.1.length : Int) = 0
        · exact ⟨_, sq z10 (oMv rfl rfl) <| sq z10 (oLnO rfl rfl uF27 rfl rfl rfl (fun e => nomatch e)) <| sq z10 (oBi rfl rfl rfl rfl) <| sq z10 (oMv rfl rfl) <| sgT z10 rfl rfl (iEq.2 hc3) (oMv rfl rfl) <| sgT z10 rfl rfl (iEq.2 hc3) (oBi rfl rfl rfl rfl) <| sq z10 (oPkT rfl rfl (iEq.2 hc3) rfl) <| sq z10 (oAsI rfl rfl) <| nl, (Eq.trans (b := (fun t_2_m7 : Bool => mk [(2, bv t_2_m7)] []) (x27.2.1 == 0)) (by kernel_rfl) (congrArg (fun t_2_m7 : Bool => mk [(2, bv t_2_m7)] []) (by first | rfl | (simp [(iEq.2 hc3)]; done) | (simp [(iEq.2 hc3)]; omega))))⟩
        · exact ⟨_, sq z10 (oMv rfl rfl) <| sq z10 (oLnO rfl rfl uF27 rfl rfl rfl (fun e => nomatch e)) <| sq z10 (oBi rfl rfl rfl rfl) <| sq z10 (oMv rfl rfl) <| sgF rfl rfl (byF iEq hc3) rfl <| sgF rfl rfl (byF iEq hc3) rfl <| sq z10 (oPkF rfl rfl (byF iEq hc3) rfl) <| sq z10 (oAsI rfl rfl) <| nl, (Eq.trans (b := (fun t_2_m7 : Bool => mk [(2, bv t_2_m7)] []) false) (by kernel_rfl) (congrArg (fun t_2_m7 : Bool => mk [(2, bv t_2_m7)] []) (by first | rfl | (simp [(byF iEq hc3)]; done) | (simp [(byF iEq hc3)]; omega))))⟩
      · refine Unw.seq ?_
        refine Go.ret (Unw.ret ?_)
        cases h
        exact Fin_ret (fin_of rfl rF10 rfl (by kernel_rfl))
    · rw [if_neg hc2] at h
      refine Go.condF rfl (byF iNe hc2) ?_
      refine Go.skip ?_
      refine Unw.seq ?_
      refine Go.seq ?_
      obtain ⟨x50, hx50, h⟩ := bs h
      refine Go.r0 c10 rfl rfl (sq z10 (oMv rfl rfl) <| sq z10 (oMv rfl rfl) <| sq z10 (oMv rfl rfl) <| sq z10 (oCa (xs := [.v false [.own 3 0 0], .v false [.own 4 0 0], .v false [.own 6 0 0]]) (vs := [(false, [.im 0 _]), (false, [.im 0 _])]) (v := .tup [(false, [.im 0 _]), (false, [.im 0 _])]) (L_impl_MatchesScore hx50) (.inl rfl) rfl kF67_73_73_27 rfl (ppC rfl (ppC rfl (ppC rfl pp0))) rfl rfl pb0 rfl rfl rfl) <| sq z10 (oMvT rfl rfl) <| sq z10 (oEx rfl rfl rfl) <| sq z10 (oEx rfl rfl rfl) <| sq z10 (oAsI rfl rfl) <| sq z10 (oAsI rfl rfl) <| nl) ?_
      refine Unw.seq ?_
      refine Go.seq ?_
      obtain ⟨x57, hx57, h⟩ := bs h
      refine Go.r0 c10 rfl rfl (sq z10 (oMv rfl rfl) <| sq z10 (oMv rfl rfl) <| sq z10 (oMv rfl rfl) <| sq z10 (oCa (xs := [.v false [.own 3 0 0], .v false [.own 4 0 0], .v false [.own 9 0 0]]) (vs := [(false, [.im 0 _]), (false, [.im 0 _])]) (v := .tup [(false, [.im 0 _]), (false, [.im 0 _])]) (L_impl_MatchesScore hx57) (.inl rfl) rfl kF67_73_73_27 rfl (ppC rfl (ppC rfl (ppC rfl pp0))) rfl rfl pb0 rfl rfl rfl) <| sq z10 (oMvT rfl rfl) <| sq z10 (oEx rfl rfl rfl) <| sq z10 (oEx rfl rfl rfl) <| sq z10 (oAsI rfl rfl) <| sq z10 (oAsI rfl rfl) <| nl) ?_
      refine Unw.seq ?_
      refine Go.seq ?_
      refine Go.rX c10 rfl rfl rfl (mk [(2, bv ((x34.2 == 0) && ((x50.2 == 0) && ((x50.1 == x27.2.1) && ((x57.2 == 0) && (decide (x27.2.1 ≤ x57.1)))))))] []) ?_ ?_
      · by_cases hc4 : x34.2 = 0
        · by_cases hc5 : x50.2 = 0
          · by_cases hc6 : x50.1 = x27.2.1
            · by_cases hc7 : x57.2 = 0
              · exact ⟨_, sq z10 (oMv rfl rfl) <| sq z10 (oBi rfl rfl rfl rfl) <| sq z10 (oMv rfl rfl) <| sgT z10 rfl rfl (iEq.2 hc4) (oMv rfl rfl) <| sgT z10 rfl rfl (iEq.2 hc4) (oBi rfl rfl rfl rfl) <| sq z10 (oPkT rfl rfl (iEq.2 hc4) rfl) <| sq z10 (oMv rfl rfl) <| sgT z10 rfl rfl (iEq.2 hc5) (oMv rfl rfl) <| sgT z10 rfl rfl (iEq.2 hc5) (oMv rfl rfl) <| sgT z10 rfl rfl (iEq.2 hc5) (oBi rfl rfl rfl rfl) <| sq z10 (oPkT rfl rfl (iEq.2 hc5) rfl) <| sq z10 (oMv rfl rfl) <| sgT z10 rfl rfl (iEq.2 hc6) (oMv rfl rfl) <| sgT z10 rfl rfl (iEq.2 hc6) (oBi rfl rfl rfl rfl) <| sq z10 (oPkT rfl rfl (iEq.2 hc6) rfl) <| sq z10 (oMv rfl rfl) <| sgT z10 rfl rfl (iEq.2 hc7) (oMv rfl rfl) <| sgT z10 rfl rfl (iEq.2 hc7) (oMv rfl rfl) <| sgT z10 rfl rfl (iEq.2 hc7) (oBi rfl rfl rfl rfl) <| sq z10 (oPkT rfl rfl (iEq.2 hc7) rfl) <| sq z10 (oAsI rfl rfl) <| nl, (Eq.trans (b := (fun t_2_m10 : Bool => mk [(2, bv t_2_m10)] []) (decide (x27.2.1 ≤ x57.1))) (by kernel_rfl) (congrArg (fun t_2_m10 : Bool => mk [(2, bv t_2_m10)] []) (by first | rfl | (simp [(iEq.2 hc4), (iEq.2 hc5), (iEq.2 hc6), (iEq.2 hc7)]; done) | (simp [(iEq.2 hc4), (iEq.2 hc5), (iEq.2 hc6), (iEq.2 hc7)]; omega))))⟩
              · exact ⟨_, sq z10 (oMv rfl rfl) <| sq z10 (oBi rfl rfl rfl rfl) <| sq z10 (oMv rfl rfl) <| sgT z10 rfl rfl (iEq.2 hc4) (oMv rfl rfl) <| sgT z10 rfl rfl (iEq.2 hc4) (oBi rfl rfl rfl rfl) <| sq z10 (oPkT rfl rfl (iEq.2 hc4) rfl) <| sq z10 (oMv rfl rfl) <| sgT z10 rfl rfl (iEq.2 hc5) (oMv rfl rfl) <| sgT z10 rfl rfl (iEq.2 hc5) (oMv rfl rfl) <| sgT z10 rfl rfl (iEq.2 hc5) (oBi rfl rfl rfl rfl) <| sq z10 (oPkT rfl rfl (iEq.2 hc5) rfl) <| sq z10 (oMv rfl rfl) <| sgT z10 rfl rfl (iEq.2 hc6) (oMv rfl rfl) <| sgT z10 rfl rfl (iEq.2 hc6) (oBi rfl rfl rfl rfl) <| sq z10 (oPkT rfl rfl (iEq.2 hc6) rfl) <| sq z10 (oMv rfl rfl) <| sgF rfl rfl (byF iEq hc7) rfl <| sgF rfl rfl (byF iEq hc7) rfl <| sgF rfl rfl (byF iEq hc7) rfl <| sq z10 (oPkF rfl rfl (byF iEq hc7) rfl) <| sq z10 (oAsI rfl rfl) <| nl, (Eq.trans (b := (fun t_2_m10 : Bool => mk [(2, bv t_2_m10)] []) false) (by kernel_rfl) (congrArg (fun t_2_m10 : Bool => mk [(2, bv t_2_m10)] []) (by first | rfl | (simp [(iEq.2 hc4), (iEq.2 hc5), (iEq.2 hc6), (byF iEq hc7)]; done) | (simp [(iEq.2 hc4), (iEq.2 hc5), (iEq.2 hc6), (byF iEq hc7)]; omega))))⟩
            · exact ⟨_, sq z10 (oMv rfl rfl) <| sq z10 (oBi rfl rfl rfl rfl) <| sq z10 (oMv rfl rfl) <| sgT z10 rfl rfl (iEq.2 hc4) (oMv rfl rfl) <| sgT z10 rfl rfl (iEq.2 hc4) (oBi rfl rfl rfl rfl) <| sq z10 (oPkT rfl rfl (iEq.2 hc4) rfl) <| sq z10 (oMv rfl rfl) <| sgT z10 rfl rfl (iEq.2 hc5) (oMv rfl rfl) <| sgT z10 rfl rfl (iEq.2 hc5) (oMv rfl rfl) <| sgT z10 rfl rfl (iEq.2 hc5) (oBi rfl rfl rfl rfl) <| sq z10 (oPkT rfl rfl (iEq.2 hc5) rfl) <| sq z10 (oMv rfl rfl) <| sgF rfl rfl (byF iEq hc6) rfl <| sgF rfl rfl (byF iEq hc6) rfl <| sq z10 (oPkF rfl rfl (byF iEq hc6) rfl) <| sq z10 (oMv rfl rfl) <| sgF rfl rfl rfl rfl <| sgF rfl rfl rfl rfl <| sgF rfl rfl rfl rfl <| sq z10 (oPkF rfl rfl rfl rfl) <| sq z10 (oAsI rfl rfl) <| nl, (Eq.trans (b := (fun t_2_m10 : Bool => mk [(2, bv t_2_m10)] []) false) (by kernel_rfl) (congrArg (fun t_2_m10 : Bool => mk [(2, bv t_2_m10)] []) (by first | rfl | (simp [(iEq.2 hc4), (iEq.2 hc5), (byF iEq hc6)]; done) | (simp [(iEq.2 hc4), (iEq.2 hc5), (byF iEq hc6)]; omega))))⟩
          · exact ⟨_, sq z10 (oMv rfl rfl) <| sq z10 (oBi rfl rfl rfl rfl) <| sq z10 (oMv rfl rfl) <| sgT z10 rfl rfl (iEq.2 hc4) (oMv rfl rfl) <| sgT z10 rfl rfl (iEq.2 hc4) (oBi rfl rfl rfl rfl) <| sq z10 (oPkT rfl rfl (iEq.2 hc4) rfl) <| sq z10 (oMv rfl rfl) <| sgF rfl rfl (byF iEq hc5) rfl <| sgF rfl rfl (byF iEq hc5) rfl <| sgF rfl rfl (byF iEq hc5) rfl <| sq z10 (oPkF rfl rfl (byF iEq hc5) rfl) <| sq z10 (oMv rfl rfl) <| sgF rfl rfl rfl rfl <| sgF rfl rfl rfl rfl <| sq z10 (oPkF rfl rfl rfl rfl) <| sq z10 (oMv rfl rfl) <| sgF rfl rfl rfl rfl <| sgF rfl rfl rfl rfl <| sgF rfl rfl rfl rfl <| sq z10 (oPkF rfl rfl rfl rfl) <| sq z10 (oAsI rfl rfl) <| nl, (Eq.trans (b := (fun t_2_m10 : Bool => mk [(2, bv t_2_m10)] []) false) (by kernel_rfl) (congrArg (fun t_2_m10 : Bool => mk [(2, bv t_2_m10)] []) (by first | rfl | (simp [(iEq.2 hc4), (byF iEq hc5)]; done) | (simp [(iEq.2 hc4), (byF iEq hc5)]; omega))))⟩
        · exact ⟨_, sq z10 (oMv rfl rfl) <| sq z10 (oBi rfl rfl rfl rfl) <| sq z10 (oMv rfl rfl) <| sgF rfl rfl (byF iEq hc4) rfl <| sgF rfl rfl (byF iEq hc4) rfl <| sq z10 (oPkF rfl rfl (byF iEq hc4) rfl) <| sq z10 (oMv rfl rfl) <| sgF rfl rfl rfl rfl <| sgF rfl rfl rfl rfl <| sgF rfl rfl rfl rfl <| sq z10 (oPkF rfl rfl rfl rfl) <| sq z10 (oMv rfl rfl) <| sgF rfl rfl rfl rfl <| sgF rfl rfl rfl rfl <| sq z10 (oPkF rfl rfl rfl rfl) <| sq z10 (oMv rfl rfl) <| sgF rfl rfl rfl rfl <| sgF rfl rfl rfl rfl <| sgF rfl rfl rfl rfl <| sq z10 (oPkF rfl rfl rfl rfl) <| sq z10 (oAsI rfl rfl) <| nl, (Eq.trans (b := (fun t_2_m10 : Bool => mk [(2, bv t_2_m10)] []) false) (by kernel_rfl) (congrArg (fun t_2_m10 : Bool => mk [(2, bv t_2_m10)] []) (by first | rfl | (simp [(byF iEq hc4)]; done) | (simp [(byF iEq hc4)]; omega))))⟩
      · refine Unw.seq ?_
        refine Go.ret (Unw.ret ?_)
        cases h
        exact Fin_ret (fin_of rfl rF10 rfl (by kernel_rfl))
end
end Go.Proofs.Ytigjhjlkdamncaa
