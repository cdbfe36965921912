/- The machine answers, at each function of the program that is reached, what its plain function answers: a further part. Conditions: none. -/
import Derived.Test.YtigjhjlkdamncaaTgoLa
namespace Go.Proofs.Ytigjhjlkdamncaa
open Go Go.Sim Go.Pw Go.Proofs
set_option linter.unusedVariables false
set_option linter.unusedSimpArgs false
set_option maxRecDepth 100000
set_option maxHeartbeats 4000000
noncomputable section

theorem L_slices_rotateCmpFunc_int64_178 {data_0 : (List Int)} {a_1 : Int} {m_2 : Int} {b_3 : Int} {fc4_0_0 : (List S_Bond)} {r : (List Int)} (h : slices_rotateCmpFunc_int64 data_0 a_1 m_2 b_3 (fun b0 b1 => impl_LongestFirst_c1 b0 b1 fc4_0_0) = some r) : FL Try.prog cfg 285 [.ow 1 (List.map eI data_0), .im 2 false [.sc (.int .i64 a_1)], .im 2 false [.sc (.int .i64 m_2)], .im 2 false [.sc (.int .i64 b_3)], .im 2 false [.clo 178 [.cp [.row 4 (List.map e_S_Bond fc4_0_0)] 0]]] = some ([], [.ow 1 (List.map eI r)]) := by
  unfold slices_rotateCmpFunc_int64 at h
  refine FL_goS (A := [(0, .v false [.own 0 0 0]), (1, .v false [.im 2 (.sc (.int .i64 a_1))]), (2, .v false [.im 2 (.sc (.int .i64 m_2))]), (3, .v false [.im 2 (.sc (.int .i64 b_3))]), (4, .v false [.im 2 (.clo 178 [.cp [.row 4 (List.map e_S_Bond fc4_0_0)] 0])])]) (B := [(0, some ⟨0, 0, true, false, false, false, [⟨.sh, 0, 0, .row 1 (List.map eI data_0)⟩]⟩), (1, none), (2, none), (3, none), (4, none)]) (nt := 58) rfl rfl Try.func285 rfl rfl rfl rfl ?_
  refine Go.seq ?_
  refine Go.r0 c285 rfl rfl (sq z285 (oMv rfl rfl) <| sq z285 (oMv rfl rfl) <| sq z285 (oBi rfl rfl rfl rfl) <| sq z285 (oAsI rfl rfl) <| nl) ?_
  refine Unw.seq ?_
  refine Go.seq ?_
  refine Go.r0 c285 rfl rfl (sq z285 (oMv rfl rfl) <| sq z285 (oMv rfl rfl) <| sq z285 (oBi rfl rfl rfl rfl) <| sq z285 (oAsI rfl rfl) <| nl) ?_
  refine Unw.seq ?_
  refine Go.seq ?_
  refine Go.block ?_
  obtain ⟨o, hl, h⟩ := bs h
  refine Go.lp c285 rfl _ (fun (s : (Int × Int × (List Int))) => match s with | (i_10_l2, j_11_l2, data_o0_l2) => mk [(0, .v false [.own 0 0 0]), (2, iv m_2), (4, .v false [.im 2 (.clo 178 [.cp [.row 4 (List.map e_S_Bond fc4_0_0)] 0])]), (10, iv i_10_l2), (11, iv j_11_l2)] [(0, some ⟨0, 0, true, false, false, false, [⟨.sh, 0, 0, .row 1 (List.map eI data_o0_l2)⟩]⟩)]) (fun (o : (Int × (List Int))) (p : Ex × St) => match o with | (i_10_e0_2, data_o0_e0_2) => p.1 = .exit 0 ∧ p.2.norm ([0, 2, 4, 10], [0]) = mk [(0, .v false [.own 0 0 0]), (2, iv m_2), (4, .v false [.im 2 (.clo 178 [.cp [.row 4 (List.map e_S_Bond fc4_0_0)] 0])]), (10, iv i_10_e0_2)] [(0, some ⟨0, 0, true, false, false, false, [⟨.sh, 0, 0, .row 1 (List.map eI data_o0_e0_2)⟩]⟩)]) hl (by kernel_rfl) ?_ ?_ ?_
  · intro o p hp e
    obtain ⟨i_10_e0_2, data_o0_e0_2⟩ := o
    exact nomatch (hp.1.symm.trans e)
  · rintro ⟨i_10_l2, j_11_l2, data_o0_l2⟩ o h
    unfold slices_rotateCmpFunc_int64_l2 at h
    dsimp only at h
    refine Go.seq ?_
    refine Go.seq ?_
    refine Go.r0 c285 rfl rfl (sq z285 (oMv rfl rfl) <| sq z285 (oMv rfl rfl) <| sq z285 (oBi rfl rfl rfl rfl) <| nl) ?_
    refine Unw.seq ?_
    by_cases hc5 : i_10_l2 ≠ j_11_l2
    · rw [if_pos hc5] at h
      refine Go.condT rfl (iNe.2 hc5) ?_
      refine Go.skip ?_
      refine Unw.seq ?_
      refine Go.block ?_
      refine Go.seq ?_
      refine Go.r0 c285 rfl rfl (sq z285 (oMv rfl rfl) <| sq z285 (oMv rfl rfl) <| sq z285 (oBi rfl rfl rfl rfl) <| nl) ?_
      refine Unw.seq ?_
      by_cases hc6 : i_10_l2 > j_11_l2
      · rw [if_pos hc6] at h
        refine Go.condT rfl (iDec.2 hc6) ?_
        refine Go.seq ?_
        obtain ⟨x31, hx31, h⟩ := bs h
        refine Go.r0 c285 rfl rfl (sq z285 (oMv rfl rfl) <| sq z285 (oMv rfl rfl) <| sq z285 (oMv rfl rfl) <| sq z285 (oBi rfl rfl rfl rfl) <| sq z285 (oMv rfl rfl) <| sq z285 (oMv rfl rfl) <| sq z285 (oMv rfl rfl) <| sq z285 (oCa (xs := [.v false [.own 0 0 0], .v false [.im 0 _], .v false [.im 0 _], .v false [.im 0 _], .v false [.im 2 _]]) (vs := []) (v := .tup []) (L_slices_swapRangeCmpFunc_int64_178 hx31) (.inl rfl) rfl kF287_27_3_3_3_273 rfl (ppC rfl (ppC rfl (ppC rfl (ppC rfl (ppC rfl pp0))))) rfl rfl (pbO rfl rfl rfl rfl pb0) rfl rfl rfl) <| nl) ?_
        refine Unw.seq ?_
        refine Go.r1 c285 rfl rfl (st1 := mk [(0, .v false [.own 0 0 0]), (2, iv m_2), (4, .v false [.im 2 (.clo 178 [.cp [.row 4 (List.map e_S_Bond fc4_0_0)] 0])]), (10, iv i_10_l2), (11, iv j_11_l2)] [(0, some ⟨0, 0, true, false, false, false, [⟨.sh, 0, 0, .row 1 (List.map eI x31)⟩]⟩)]) (by kernel_rfl) (sq z285 (oMv rfl rfl) <| sq z285 (oMv rfl rfl) <| sq z285 (oBi rfl rfl rfl rfl) <| sq z285 (oAsI rfl rfl) <| nl) ?_
        refine Unw.blk ?_
        refine Unw.nil ?_
        cases h
        exact ⟨rfl, (by kernel_rfl)⟩
      · rw [if_neg hc6] at h
        refine Go.condF rfl (byF iDec hc6) ?_
        refine Go.seq ?_
        obtain ⟨x46, hx46, h⟩ := bs h
        refine Go.r0 c285 rfl rfl (sq z285 (oMv rfl rfl) <| sq z285 (oMv rfl rfl) <| sq z285 (oMv rfl rfl) <| sq z285 (oBi rfl rfl rfl rfl) <| sq z285 (oMv rfl rfl) <| sq z285 (oMv rfl rfl) <| sq z285 (oBi rfl rfl rfl rfl) <| sq z285 (oMv rfl rfl) <| sq z285 (oBi rfl rfl rfl rfl) <| sq z285 (oMv rfl rfl) <| sq z285 (oMv rfl rfl) <| sq z285 (oCa (xs := [.v false [.own 0 0 0], .v false [.im 0 _], .v false [.im 0 _], .v false [.im 0 _], .v false [.im 2 _]]) (vs := []) (v := .tup []) (L_slices_swapRangeCmpFunc_int64_178 hx46) (.inl rfl) rfl kF287_27_3_3_3_273 rfl (ppC rfl (ppC rfl (ppC rfl (ppC rfl (ppC rfl pp0))))) rfl rfl (pbO rfl rfl rfl rfl pb0) rfl rfl rfl) <| nl) ?_
        refine Unw.seq ?_
        refine Go.r1 c285 rfl rfl (st1 := mk [(0, .v false [.own 0 0 0]), (2, iv m_2), (4, .v false [.im 2 (.clo 178 [.cp [.row 4 (List.map e_S_Bond fc4_0_0)] 0])]), (10, iv i_10_l2), (11, iv j_11_l2)] [(0, some ⟨0, 0, true, false, false, false, [⟨.sh, 0, 0, .row 1 (List.map eI x46)⟩]⟩)]) (by kernel_rfl) (sq z285 (oMv rfl rfl) <| sq z285 (oMv rfl rfl) <| sq z285 (oBi rfl rfl rfl rfl) <| sq z285 (oAsI rfl rfl) <| nl) ?_
        refine Unw.blk ?_
        refine Unw.nil ?_
        cases h
        exact ⟨rfl, (by kernel_rfl)⟩
    · rw [if_neg hc5] at h
      refine Go.condF rfl (byF iNe hc5) ?_
      refine Go.exit ?_
      refine Unw.seqx ?_
      refine Unw.nil ?_
      cases h
      exact ⟨rfl, (by kernel_rfl)⟩
  · rintro ⟨e, st⟩ hp
    obtain ⟨i_10_e0_2, data_o0_e0_2⟩ := o
    dsimp only at h
    obtain ⟨he, hst⟩ := hp
    obtain rfl : e = .exit 0 := he
    refine Unw.blkx ?_
    refine Unw.seq ?_
    obtain ⟨x57, hx57, h⟩ := bs h
    refine Go.r1 c285 rfl rfl hst (sq z285 (oMv rfl rfl) <| sq z285 (oMv rfl rfl) <| sq z285 (oMv rfl rfl) <| sq z285 (oBi rfl rfl rfl rfl) <| sq z285 (oMv rfl rfl) <| sq z285 (oMv rfl rfl) <| sq z285 (oMv rfl rfl) <| sq z285 (oCa (xs := [.v false [.own 0 0 0], .v false [.im 0 _], .v false [.im 0 _], .v false [.im 0 _], .v false [.im 2 _]]) (vs := []) (v := .tup []) (L_slices_swapRangeCmpFunc_int64_178 hx57) (.inl rfl) rfl kF287_27_3_3_3_273 rfl (ppC rfl (ppC rfl (ppC rfl (ppC rfl (ppC rfl pp0))))) rfl rfl (pbO rfl rfl rfl rfl pb0) rfl rfl rfl) <| nl) ?_
    refine Unw.nil ?_
    cases h
    exact Fin_end (fin_of rfl rF285 rfl (by kernel_rfl))
theorem L_slices_symMergeCmpFunc_int64_178_F {self : ((List Int) × Int × Int × Int × (Int → Int → Option Int)) → Option (List Int)} {fc4_0_0 : (List S_Bond)} (ih : ∀ {data_0 : (List Int)} {a_1 : Int} {m_2 : Int} {b_3 : Int} {r : (List Int)}, self (data_0, a_1, m_2, b_3, (fun b0 b1 => impl_LongestFirst_c1 b0 b1 fc4_0_0)) = some r → FL Try.prog cfg 275 [.ow 1 (List.map eI data_0), .im 2 false [.sc (.int .i64 a_1)], .im 2 false [.sc (.int .i64 m_2)], .im 2 false [.sc (.int .i64 b_3)], .im 2 false [.clo 178 [.cp [.row 4 (List.map e_S_Bond fc4_0_0)] 0]]] = some ([], [.ow 1 (List.map eI r)])) {data_0 : (List Int)} {a_1 : Int} {m_2 : Int} {b_3 : Int} {r : (List Int)} (h : slices_symMergeCmpFunc_int64_F self data_0 a_1 m_2 b_3 (fun b0 b1 => impl_LongestFirst_c1 b0 b1 fc4_0_0) = some r) : FL Try.prog cfg 275 [.ow 1 (List.map eI data_0), .im 2 false [.sc (.int .i64 a_1)], .im 2 false [.sc (.int .i64 m_2)], .im 2 false [.sc (.int .i64 b_3)], .im 2 false [.clo 178 [.cp [.row 4 (List.map e_S_Bond fc4_0_0)] 0]]] = some ([], [.ow 1 (List.map eI r)]) := by
  unfold slices_symMergeCmpFunc_int64_F at h
  refine FL_goS (A := [(0, .v false [.own 0 0 0]), (1, .v false [.im 2 (.sc (.int .i64 a_1))]), (2, .v false [.im 2 (.sc (.int .i64 m_2))]), (3, .v false [.im 2 (.sc (.int .i64 b_3))]), (4, .v false [.im 2 (.clo 178 [.cp [.row 4 (List.map e_S_Bond fc4_0_0)] 0])])]) (B := [(0, some ⟨0, 0, true, false, false, false, [⟨.sh, 0, 0, .row 1 (List.map eI data_0)⟩]⟩), (1, none), (2, none), (3, none), (4, none)]) (nt := 220) rfl rfl Try.func275 rfl rfl rfl rfl ?_
  refine Go.seq ?_
  refine Go.seq ?_
  refine Go.r0 c275 rfl rfl (sq z275 (oMv rfl rfl) <| sq z275 (oMv rfl rfl) <| sq z275 (oBi rfl rfl rfl rfl) <| sq z275 (oBi rfl rfl rfl rfl) <| nl) ?_
  refine Unw.seq ?_
  by_cases hc1 : (w64 (m_2 - a_1)) = 1
  · rw [if_pos hc1] at h
    refine Go.condT rfl (iEq.2 hc1) ?_
    refine Go.seq ?_
    refine Go.r0 c275 rfl rfl (sq z275 (oMv rfl rfl) <| sq z275 (oAsI rfl rfl) <| nl) ?_
    refine Unw.seq ?_
    refine Go.seq ?_
    refine Go.r0 c275 rfl rfl (sq z275 (oMv rfl rfl) <| sq z275 (oAsI rfl rfl) <| nl) ?_
    refine Unw.seq ?_
    refine Go.seq ?_
    refine Go.block ?_
    obtain ⟨o, hl, h⟩ := bs h
    refine Go.lp c275 rfl _ (fun (s : (Int × Int)) => match s with | (i_10_l3, j_11_l3) => mk [(0, .v false [.own 0 0 0]), (1, iv a_1), (4, .v false [.im 2 (.clo 178 [.cp [.row 4 (List.map e_S_Bond fc4_0_0)] 0])]), (10, iv i_10_l3), (11, iv j_11_l3)] [(0, some ⟨0, 0, true, false, false, false, [⟨.sh, 0, 0, .row 1 (List.map eI data_0)⟩]⟩)]) (fun (i_10_e0_3 : Int) (p : Ex × St) => p.1 = .exit 0 ∧ p.2.norm ([0, 1, 10], [0]) = mk [(0, .v false [.own 0 0 0]), (1, iv a_1), (10, iv i_10_e0_3)] [(0, some ⟨0, 0, true, false, false, false, [⟨.sh, 0, 0, .row 1 (List.map eI data_0)⟩]⟩)]) hl (by kernel_rfl) ?_ ?_ ?_
    · intro o p hp e
      exact nomatch (hp.1.symm.trans e)
    · rintro ⟨i_10_l3, j_11_l3⟩ o h
      unfold slices_symMergeCmpFunc_int64_l3 at h
      dsimp only at h
      refine Go.seq ?_
      refine Go.seq ?_
      refine Go.r0 c275 rfl rfl (sq z275 (oMv rfl rfl) <| sq z275 (oMv rfl rfl) <| sq z275 (oBi rfl rfl rfl rfl) <| nl) ?_
      refine Unw.seq ?_
      by_cases hc9 : i_10_l3 < j_11_l3
      · rw [if_pos hc9] at h
        refine Go.condT rfl (iDec.2 hc9) ?_
        refine Go.skip ?_
        refine Unw.seq ?_
        refine Go.block ?_
        refine Go.seq ?_
        obtain ⟨x38, hx38, h⟩ := bs h
        refine Go.r0 c275 rfl rfl (sq z275 (oMv rfl rfl) <| sq z275 (oMv rfl rfl) <| sq z275 (oBi rfl rfl rfl rfl) <| sq z275 (oCvI rfl uF3 uF364 rfl) <| sq z275 (oShr rfl hx38 rfl rfl) <| sq z275 (oCvI rfl uF364 uF3 rfl) <| sq z275 (oAsI rfl rfl) <| nl) ?_
        refine Unw.seq ?_
        refine Go.seq ?_
        obtain ⟨x43, hx43, h⟩ := bs h
        obtain ⟨x47, hx47, h⟩ := bs h
        obtain ⟨x49, hx49, h⟩ := bs h
        refine Go.dr c275 rfl rfl rfl rfl (mk [(0, .v false [.own 0 0 0]), (1, iv a_1), (4, .v false [.im 2 (.clo 178 [.cp [.row 4 (List.map e_S_Bond fc4_0_0)] 0])]), (10, iv i_10_l3), (11, iv j_11_l3), (12, iv (w64 (x38))), (50, bv (decide (x49 < 0)))] [(0, some ⟨0, 0, true, false, false, false, [⟨.sh, 0, 0, .row 1 (List.map eI data_0)⟩]⟩)]) (sT rfl (dN z275 rfl (oMv rfl rfl)) <| sT rfl (dN z275 rfl (oMv rfl rfl)) <| sT rfl (dN z275 rfl (oMv rfl rfl)) <| sT rfl (dN z275 rfl (oIAO rfl hx43 sF27 rfl rfl rfl rfl)) <| sT rfl (dN z275 rfl (oLdE (cs := [.im 0 _]) rfl tF2 rfl rfl rfl (fun e => nomatch e) (rd_get hx43) rfl rfl)) <| sT rfl (dN z275 rfl (oMv rfl rfl)) <| sT rfl (dN z275 rfl (oMv rfl rfl)) <| sT rfl (dN z275 rfl (oIAO rfl hx47 sF27 rfl rfl rfl rfl)) <| sT rfl (dN z275 rfl (oLdE (cs := [.im 0 _]) rfl tF2 rfl rfl rfl (fun e => nomatch e) (rd_get hx47) rfl rfl)) <| sS (dN z275 rfl (oCa (xs := [.v false [.im 0 _], .v false [.im 0 _], .v false [.im 2 _]]) (vs := [(false, [.im 0 _])]) (v := .v false [.im 0 _]) (L_impl_LongestFirst_c1 hx49) (.inr ⟨_, _, rfl, rfl⟩) rfl kF178_2_2_0 rfl (ppC rfl (ppC rfl (ppC rfl pp0))) rfl rfl pb0 rfl rfl rfl)) trivial (sT rfl (dN z275 rfl (oBi rfl rfl rfl rfl)) <| sD (by kernel_rfl))) ?_
        refine Unw.seq ?_
        by_cases hc10 : x49 < 0
        · rw [if_pos hc10] at h
          refine Go.condT rfl (iDec.2 hc10) ?_
          refine Go.r0 c275 rfl rfl (sq z275 (oMv rfl rfl) <| sq z275 (oBi rfl rfl rfl rfl) <| sq z275 (oAsI rfl rfl) <| nl) ?_
          refine Unw.blk ?_
          refine Unw.nil ?_
          cases h
          exact ⟨rfl, (by kernel_rfl)⟩
        · rw [if_neg hc10] at h
          refine Go.condF rfl (byF iDec hc10) ?_
          refine Go.r0 c275 rfl rfl (sq z275 (oMv rfl rfl) <| sq z275 (oAsI rfl rfl) <| nl) ?_
          refine Unw.blk ?_
          refine Unw.nil ?_
          cases h
          exact ⟨rfl, (by kernel_rfl)⟩
      · rw [if_neg hc9] at h
        refine Go.condF rfl (byF iDec hc9) ?_
        refine Go.exit ?_
        refine Unw.seqx ?_
        refine Unw.nil ?_
        cases h
        exact ⟨rfl, (by kernel_rfl)⟩
    · rintro ⟨e, st⟩ hp
      obtain ⟨i_10_e0_3, rfl⟩ : ∃ y, y = o := ⟨o, rfl⟩
      obtain ⟨he, hst⟩ := hp
      obtain rfl : e = .exit 0 := he
      refine Unw.blkx ?_
      refine Unw.seq ?_
      refine Go.seq ?_
      refine Go.seq ?_
      refine Go.r1 c275 rfl rfl hst (sq z275 (oMv rfl rfl) <| sq z275 (oAsI rfl rfl) <| nl) ?_
      refine Unw.seq ?_
      refine Go.block ?_
      obtain ⟨o, hl, h⟩ := bs h
      refine Go.lp c275 rfl _ (fun (s : (Int × (List Int))) => match s with | (k_13_l9, data_o0_l9) => mk [(0, .v false [.own 0 0 0]), (10, iv i_10_e0_3), (13, iv k_13_l9)] [(0, some ⟨0, 0, true, false, false, false, [⟨.sh, 0, 0, .row 1 (List.map eI data_o0_l9)⟩]⟩)]) (fun (r2 : (List Int)) (p : Ex × St) => p.1 = .exit 2 ∧ fin Try.prog cfg 275 Try.f275 [.ow 1 (List.map eI data_0), .im 2 false [.sc (.int .i64 a_1)], .im 2 false [.sc (.int .i64 m_2)], .im 2 false [.sc (.int .i64 b_3)], .im 2 false [.clo 178 [.cp [.row 4 (List.map e_S_Bond fc4_0_0)] 0]]] p.2 = some ([], [.ow 1 (List.map eI r2)])) hl (by kernel_rfl) ?_ ?_ ?_
      · intro o p hp e
        exact nomatch (hp.1.symm.trans e)
      · rintro ⟨k_13_l9, data_o0_l9⟩ o h
        unfold slices_symMergeCmpFunc_int64_l9 at h
        dsimp only at h
        refine Go.seq ?_
        refine Go.seq ?_
        refine Go.r0 c275 rfl rfl (sq z275 (oMv rfl rfl) <| sq z275 (oMv rfl rfl) <| sq z275 (oBi rfl rfl rfl rfl) <| sq z275 (oBi rfl rfl rfl rfl) <| nl) ?_
        refine Unw.seq ?_
        by_cases hc8 : k_13_l9 < (w64 (i_10_e0_3 - 1))
        · rw [if_pos hc8] at h
          refine Go.condT rfl (iDec.2 hc8) ?_
          refine Go.skip ?_
          refine Unw.seq ?_
          refine Go.seq ?_
          refine Go.block ?_
          obtain ⟨x69, hx69, h⟩ := bs h
          obtain ⟨x73, hx73, h⟩ := bs h
          obtain ⟨x75, hx75, h⟩ := bs h
          obtain ⟨x76, hx76, h⟩ := bs h
          refine Go.dr c275 rfl rfl rfl rfl (mk [(0, .v false [.own 0 0 0]), (10, iv i_10_e0_3), (13, iv k_13_l9)] [(0, some ⟨0, 0, true, false, false, false, [⟨.sh, 0, 0, .row 1 (List.map eI ((data_o0_l9.set k_13_l9.toNat x69).set ((w64 (k_13_l9 + 1)).toNat) x73))⟩]⟩)]) (sT rfl (dN z275 rfl (oMv rfl rfl)) <| sT rfl (dN z275 rfl (oMv rfl rfl)) <| sT rfl (dN z275 rfl (oMv rfl rfl)) <| sT rfl (dN z275 rfl (oMv rfl rfl)) <| sT rfl (dN z275 rfl (oBi rfl rfl rfl rfl)) <| sT rfl (dN z275 rfl (oMv rfl rfl)) <| sT rfl (dN z275 rfl (oMv rfl rfl)) <| sT rfl (dN z275 rfl (oBi rfl rfl rfl rfl)) <| sT rfl (dN z275 rfl (oIAO rfl hx69 sF27 rfl rfl rfl rfl)) <| sT rfl (dN z275 rfl (oLdE (cs := [.im 0 _]) rfl tF2 rfl rfl rfl (fun e => nomatch e) (rd_get hx69) rfl rfl)) <| sT rfl (dN z275 rfl (oMv rfl rfl)) <| sT rfl (dN z275 rfl (oMv rfl rfl)) <| sT rfl (dN z275 rfl (oIAO rfl hx73 sF27 rfl rfl rfl rfl)) <| sT rfl (dN z275 rfl (oLdE (cs := [.im 0 _]) rfl tF2 rfl rfl rfl (fun e => nomatch e) (rd_get hx73) rfl rfl)) <| sT rfl (dN z275 rfl (oIAO rfl hx75 sF27 rfl rfl rfl rfl)) <| sS (dN z275 rfl (oStE (v' := x69) tF2 rfl rfl rfl (fxI fx0) rfl rfl (rd_get hx75) rfl)) trivial (sT rfl (dN z275 rfl (oIAO rfl hx76 sF27 rfl rfl rfl rfl)) <| sS (dN z275 rfl (oStE (v' := x73) tF2 rfl rfl rfl (fxI fx0) rfl rfl (rd_get hx76) rfl)) trivial (sD (by kernel_rfl)))) ?_
          refine Unw.blk ?_
          refine Unw.seq ?_
          refine Go.r0 c275 rfl rfl (sq z275 (oMv rfl rfl) <| sq z275 (oBi rfl rfl rfl rfl) <| sq z275 (oAsI rfl rfl) <| nl) ?_
          refine Unw.nil ?_
          cases h
          exact ⟨rfl, (by kernel_rfl)⟩
        · rw [if_neg hc8] at h
          refine Go.condF rfl (byF iDec hc8) ?_
          refine Go.exit ?_
          refine Unw.seqx ?_
          refine Unw.nil ?_
          cases h
          exact ⟨rfl, (fin_of rfl rF275 rfl (by kernel_rfl))⟩
      · rintro ⟨e, st⟩ hp
        obtain ⟨r2, rfl⟩ : ∃ y, y = o := ⟨o, rfl⟩
        obtain ⟨he, hfin⟩ := hp
        obtain rfl : e = .exit 2 := he
        cases h
        refine Unw.blkx ?_
        refine Unw.seq ?_
        exact Go.ret (Unw.ret (Fin_ret hfin))
  · rw [if_neg hc1] at h
    refine Go.condF rfl (byF iEq hc1) ?_
    refine Go.skip ?_
    refine Unw.seq ?_
    refine Go.seq ?_
    refine Go.seq ?_
    refine Go.r0 c275 rfl rfl (sq z275 (oMv rfl rfl) <| sq z275 (oMv rfl rfl) <| sq z275 (oBi rfl rfl rfl rfl) <| sq z275 (oBi rfl rfl rfl rfl) <| nl) ?_
    refine Unw.seq ?_
    by_cases hc11 : (w64 (b_3 - m_2)) = 1
    · rw [if_pos hc11] at h
      refine Go.condT rfl (iEq.2 hc11) ?_
      refine Go.seq ?_
      refine Go.r0 c275 rfl rfl (sq z275 (oMv rfl rfl) <| sq z275 (oAsI rfl rfl) <| nl) ?_
      refine Unw.seq ?_
      refine Go.seq ?_
      refine Go.r0 c275 rfl rfl (sq z275 (oMv rfl rfl) <| sq z275 (oAsI rfl rfl) <| nl) ?_
      refine Unw.seq ?_
      refine Go.seq ?_
      refine Go.block ?_
      obtain ⟨o, hl, h⟩ := bs h
      refine Go.lp c275 rfl _ (fun (s : (Int × Int)) => match s with | (i_14_l15, j_15_l15) => mk [(0, .v false [.own 0 0 0]), (2, iv m_2), (4, .v false [.im 2 (.clo 178 [.cp [.row 4 (List.map e_S_Bond fc4_0_0)] 0])]), (14, iv i_14_l15), (15, iv j_15_l15)] [(0, some ⟨0, 0, true, false, false, false, [⟨.sh, 0, 0, .row 1 (List.map eI data_0)⟩]⟩)]) (fun (i_14_e4_15 : Int) (p : Ex × St) => p.1 = .exit 4 ∧ p.2.norm ([0, 2, 14], [0]) = mk [(0, .v false [.own 0 0 0]), (2, iv m_2), (14, iv i_14_e4_15)] [(0, some ⟨0, 0, true, false, false, false, [⟨.sh, 0, 0, .row 1 (List.map eI data_0)⟩]⟩)]) hl (by kernel_rfl) ?_ ?_ ?_
      · intro o p hp e
        exact nomatch (hp.1.symm.trans e)
      · rintro ⟨i_14_l15, j_15_l15⟩ o h
        unfold slices_symMergeCmpFunc_int64_l15 at h
        dsimp only at h
        refine Go.seq ?_
        refine Go.seq ?_
        refine Go.r0 c275 rfl rfl (sq z275 (oMv rfl rfl) <| sq z275 (oMv rfl rfl) <| sq z275 (oBi rfl rfl rfl rfl) <| nl) ?_
        refine Unw.seq ?_
        by_cases hc19 : i_14_l15 < j_15_l15
        · rw [if_pos hc19] at h
          refine Go.condT rfl (iDec.2 hc19) ?_
          refine Go.skip ?_
          refine Unw.seq ?_
          refine Go.block ?_
          refine Go.seq ?_
          obtain ⟨x90, hx90, h⟩ := bs h
          refine Go.r0 c275 rfl rfl (sq z275 (oMv rfl rfl) <| sq z275 (oMv rfl rfl) <| sq z275 (oBi rfl rfl rfl rfl) <| sq z275 (oCvI rfl uF3 uF364 rfl) <| sq z275 (oShr rfl hx90 rfl rfl) <| sq z275 (oCvI rfl uF364 uF3 rfl) <| sq z275 (oAsI rfl rfl) <| nl) ?_
          refine Unw.seq ?_
          refine Go.seq ?_
          obtain ⟨x95, hx95, h⟩ := bs h
          obtain ⟨x99, hx99, h⟩ := bs h
          obtain ⟨x101, hx101, h⟩ := bs h
          refine Go.dr c275 rfl rfl rfl rfl (mk [(0, .v false [.own 0 0 0]), (2, iv m_2), (4, .v false [.im 2 (.clo 178 [.cp [.row 4 (List.map e_S_Bond fc4_0_0)] 0])]), (14, iv i_14_l15), (15, iv j_15_l15), (16, iv (w64 (x90))), (103, bv (!(decide (x101 < 0))))] [(0, some ⟨0, 0, true, false, false, false, [⟨.sh, 0, 0, .row 1 (List.map eI data_0)⟩]⟩)]) (sT rfl (dN z275 rfl (oMv rfl rfl)) <| sT rfl (dN z275 rfl (oMv rfl rfl)) <| sT rfl (dN z275 rfl (oMv rfl rfl)) <| sT rfl (dN z275 rfl (oIAO rfl hx95 sF27 rfl rfl rfl rfl)) <| sT rfl (dN z275 rfl (oLdE (cs := [.im 0 _]) rfl tF2 rfl rfl rfl (fun e => nomatch e) (rd_get hx95) rfl rfl)) <| sT rfl (dN z275 rfl (oMv rfl rfl)) <| sT rfl (dN z275 rfl (oMv rfl rfl)) <| sT rfl (dN z275 rfl (oIAO rfl hx99 sF27 rfl rfl rfl rfl)) <| sT rfl (dN z275 rfl (oLdE (cs := [.im 0 _]) rfl tF2 rfl rfl rfl (fun e => nomatch e) (rd_get hx99) rfl rfl)) <| sS (dN z275 rfl (oCa (xs := [.v false [.im 0 _], .v false [.im 0 _], .v false [.im 2 _]]) (vs := [(false, [.im 0 _])]) (v := .v false [.im 0 _]) (L_impl_LongestFirst_c1 hx101) (.inr ⟨_, _, rfl, rfl⟩) rfl kF178_2_2_0 rfl (ppC rfl (ppC rfl (ppC rfl pp0))) rfl rfl pb0 rfl rfl rfl)) trivial (sT rfl (dN z275 rfl (oBi rfl rfl rfl rfl)) <| sT rfl (dN z275 rfl (oUn rfl rfl rfl)) <| sD (by kernel_rfl))) ?_
          refine Unw.seq ?_
          by_cases hc20 : x101 < 0
          · rw [if_pos hc20] at h
            refine Go.condF rfl (nF (iDec.2 hc20)) ?_
            refine Go.r0 c275 rfl rfl (sq z275 (oMv rfl rfl) <| sq z275 (oAsI rfl rfl) <| nl) ?_
            refine Unw.blk ?_
            refine Unw.nil ?_
            cases h
            exact ⟨rfl, (by kernel_rfl)⟩
          · rw [if_neg hc20] at h
            refine Go.condT rfl (nT (byF iDec hc20)) ?_
            refine Go.r0 c275 rfl rfl (sq z275 (oMv rfl rfl) <| sq z275 (oBi rfl rfl rfl rfl) <| sq z275 (oAsI rfl rfl) <| nl) ?_
            refine Unw.blk ?_
            refine Unw.nil ?_
            cases h
            exact ⟨rfl, (by kernel_rfl)⟩
        · rw [if_neg hc19] at h
          refine Go.condF rfl (byF iDec hc19) ?_
          refine Go.exit ?_
          refine Unw.seqx ?_
          refine Unw.nil ?_
          cases h
          exact ⟨rfl, (by kernel_rfl)⟩
      · rintro ⟨e, st⟩ hp
        obtain ⟨i_14_e4_15, rfl⟩ : ∃ y, y = o := ⟨o, rfl⟩
        obtain ⟨he, hst⟩ := hp
        obtain rfl : e = .exit 4 := he
        refine Unw.blkx ?_
        refine Unw.seq ?_
        refine Go.seq ?_
        refine Go.seq ?_
        refine Go.r1 c275 rfl rfl hst (sq z275 (oMv rfl rfl) <| sq z275 (oAsI rfl rfl) <| nl) ?_
        refine Unw.seq ?_
        refine Go.block ?_
        obtain ⟨o, hl, h⟩ := bs h
        refine Go.lp c275 rfl _ (fun (s : (Int × (List Int))) => match s with | (k_17_l21, data_o0_l21) => mk [(0, .v false [.own 0 0 0]), (14, iv i_14_e4_15), (17, iv k_17_l21)] [(0, some ⟨0, 0, true, false, false, false, [⟨.sh, 0, 0, .row 1 (List.map eI data_o0_l21)⟩]⟩)]) (fun (r2 : (List Int)) (p : Ex × St) => p.1 = .exit 6 ∧ fin Try.prog cfg 275 Try.f275 [.ow 1 (List.map eI data_0), .im 2 false [.sc (.int .i64 a_1)], .im 2 false [.sc (.int .i64 m_2)], .im 2 false [.sc (.int .i64 b_3)], .im 2 false [.clo 178 [.cp [.row 4 (List.map e_S_Bond fc4_0_0)] 0]]] p.2 = some ([], [.ow 1 (List.map eI r2)])) hl (by kernel_rfl) ?_ ?_ ?_
        · intro o p hp e
          exact nomatch (hp.1.symm.trans e)
        · rintro ⟨k_17_l21, data_o0_l21⟩ o h
          unfold slices_symMergeCmpFunc_int64_l21 at h
          dsimp only at h
          refine Go.seq ?_
          refine Go.seq ?_
          refine Go.r0 c275 rfl rfl (sq z275 (oMv rfl rfl) <| sq z275 (oMv rfl rfl) <| sq z275 (oBi rfl rfl rfl rfl) <| nl) ?_
          refine Unw.seq ?_
          by_cases hc18 : k_17_l21 > i_14_e4_15
          · rw [if_pos hc18] at h
            refine Go.condT rfl (iDec.2 hc18) ?_
            refine Go.skip ?_
            refine Unw.seq ?_
            refine Go.seq ?_
            refine Go.block ?_
            obtain ⟨x121, hx121, h⟩ := bs h
            obtain ⟨x125, hx125, h⟩ := bs h
            obtain ⟨x127, hx127, h⟩ := bs h
            obtain ⟨x128, hx128, h⟩ := bs h
            refine Go.dr c275 rfl rfl rfl rfl (mk [(0, .v false [.own 0 0 0]), (14, iv i_14_e4_15), (17, iv k_17_l21)] [(0, some ⟨0, 0, true, false, false, false, [⟨.sh, 0, 0, .row 1 (List.map eI ((data_o0_l21.set k_17_l21.toNat x121).set ((w64 (k_17_l21 - 1)).toNat) x125))⟩]⟩)]) (sT rfl (dN z275 rfl (oMv rfl rfl)) <| sT rfl (dN z275 rfl (oMv rfl rfl)) <| sT rfl (dN z275 rfl (oMv rfl rfl)) <| sT rfl (dN z275 rfl (oMv rfl rfl)) <| sT rfl (dN z275 rfl (oBi rfl rfl rfl rfl)) <| sT rfl (dN z275 rfl (oMv rfl rfl)) <| sT rfl (dN z275 rfl (oMv rfl rfl)) <| sT rfl (dN z275 rfl (oBi rfl rfl rfl rfl)) <| sT rfl (dN z275 rfl (oIAO rfl hx121 sF27 rfl rfl rfl rfl)) <| sT rfl (dN z275 rfl (oLdE (cs := [.im 0 _]) rfl tF2 rfl rfl rfl (fun e => nomatch e) (rd_get hx121) rfl rfl)) <| sT rfl (dN z275 rfl (oMv rfl rfl)) <| sT rfl (dN z275 rfl (oMv rfl rfl)) <| sT rfl (dN z275 rfl (oIAO rfl hx125 sF27 rfl rfl rfl rfl)) <| sT rfl (dN z275 rfl (oLdE (cs := [.im 0 _]) rfl tF2 rfl rfl rfl (fun e => nomatch e) (rd_get hx125) rfl rfl)) <| sT rfl (dN z275 rfl (oIAO rfl hx127 sF27 rfl rfl rfl rfl)) <| sS (dN z275 rfl (oStE (v' := x121) tF2 rfl rfl rfl (fxI fx0) rfl rfl (rd_get hx127) rfl)) trivial (sT rfl (dN z275 rfl (oIAO rfl hx128 sF27 rfl rfl rfl rfl)) <| sS (dN z275 rfl (oStE (v' := x125) tF2 rfl rfl rfl (fxI fx0) rfl rfl (rd_get hx128) rfl)) trivial (sD (by kernel_rfl)))) ?_
            refine Unw.blk ?_
            refine Unw.seq ?_
            refine Go.r0 c275 rfl rfl (sq z275 (oMv rfl rfl) <| sq z275 (oBi rfl rfl rfl rfl) <| sq z275 (oAsI rfl rfl) <| nl) ?_
            refine Unw.nil ?_
            cases h
            exact ⟨rfl, (by kernel_rfl)⟩
          · rw [if_neg hc18] at h
            refine Go.condF rfl (byF iDec hc18) ?_
            refine Go.exit ?_
            refine Unw.seqx ?_
            refine Unw.nil ?_
            cases h
            exact ⟨rfl, (fin_of rfl rF275 rfl (by kernel_rfl))⟩
        · rintro ⟨e, st⟩ hp
          obtain ⟨r2, rfl⟩ : ∃ y, y = o := ⟨o, rfl⟩
          obtain ⟨he, hfin⟩ := hp
          obtain rfl : e = .exit 6 := he
          cases h
          refine Unw.blkx ?_
          refine Unw.seq ?_
          exact Go.ret (Unw.ret (Fin_ret hfin))
    · rw [if_neg hc11] at h
      refine Go.condF rfl (byF iEq hc11) ?_
      refine Go.skip ?_
      refine Unw.seq ?_
      refine Go.seq ?_
      obtain ⟨x133, hx133, h⟩ := bs h
      refine Go.r0 c275 rfl rfl (sq z275 (oMv rfl rfl) <| sq z275 (oMv rfl rfl) <| sq z275 (oBi rfl rfl rfl rfl) <| sq z275 (oCvI rfl uF3 uF364 rfl) <| sq z275 (oShr rfl hx133 rfl rfl) <| sq z275 (oCvI rfl uF364 uF3 rfl) <| sq z275 (oAsI rfl rfl) <| nl) ?_
      refine Unw.seq ?_
      refine Go.seq ?_
      refine Go.r0 c275 rfl rfl (sq z275 (oMv rfl rfl) <| sq z275 (oMv rfl rfl) <| sq z275 (oBi rfl rfl rfl rfl) <| sq z275 (oAsI rfl rfl) <| nl) ?_
      refine Unw.seq ?_
      refine Go.seq ?_
      refine Go.r0 c275 rfl rfl (sq z275 (oAsI rfl rfl) <| sq z275 (oAsI rfl rfl) <| nl) ?_
      refine Unw.seq ?_
      refine Go.seq ?_
      refine Go.seq ?_
      refine Go.r0 c275 rfl rfl (sq z275 (oMv rfl rfl) <| sq z275 (oMv rfl rfl) <| sq z275 (oBi rfl rfl rfl rfl) <| nl) ?_
      refine Unw.seq ?_
      refine Go.join (fun st => ∃ start_20_r32, ∃ r_21_r32, slices_symMergeCmpFunc_int64_k32 self a_1 b_3 (fun b0 b1 => impl_LongestFirst_c1 b0 b1 fc4_0_0) data_0 m_2 x133 start_20_r32 r_21_r32 = some r ∧ st.norm ([0, 1, 2, 3, 4, 18, 19, 20, 21], [0]) = mk [(0, .v false [.own 0 0 0]), (1, iv a_1), (2, iv m_2), (3, iv b_3), (4, .v false [.im 2 (.clo 178 [.cp [.row 4 (List.map e_S_Bond fc4_0_0)] 0])]), (18, iv (w64 (x133))), (19, iv (w64 ((w64 (x133)) + m_2))), (20, iv start_20_r32), (21, iv r_21_r32)] [(0, some ⟨0, 0, true, false, false, false, [⟨.sh, 0, 0, .row 1 (List.map eI data_0)⟩]⟩)]) ?_ ?_
      · rintro st ⟨start_20_r32, r_21_r32, h, hst⟩
        unfold slices_symMergeCmpFunc_int64_k32 at h
        refine Unw.seq ?_
        refine Go.seq ?_
        refine Go.r1 c275 rfl rfl hst (sq z275 (oMv rfl rfl) <| sq z275 (oBi rfl rfl rfl rfl) <| sq z275 (oAsI rfl rfl) <| nl) ?_
        refine Unw.seq ?_
        refine Go.seq ?_
        refine Go.block ?_
        obtain ⟨o, hl, h⟩ := bs h
        refine Go.lp c275 rfl _ (fun (s : (Int × Int)) => match s with | (start_20_l33, r_21_l33) => mk [(0, .v false [.own 0 0 0]), (1, iv a_1), (2, iv m_2), (3, iv b_3), (4, .v false [.im 2 (.clo 178 [.cp [.row 4 (List.map e_S_Bond fc4_0_0)] 0])]), (18, iv (w64 (x133))), (19, iv (w64 ((w64 (x133)) + m_2))), (20, iv start_20_l33), (21, iv r_21_l33), (22, iv (w64 ((w64 ((w64 (x133)) + m_2)) - 1)))] [(0, some ⟨0, 0, true, false, false, false, [⟨.sh, 0, 0, .row 1 (List.map eI data_0)⟩]⟩)]) (fun (start_20_e8_33 : Int) (p : Ex × St) => p.1 = .exit 8 ∧ p.2.norm ([0, 1, 2, 3, 4, 18, 19, 20], [0]) = mk [(0, .v false [.own 0 0 0]), (1, iv a_1), (2, iv m_2), (3, iv b_3), (4, .v false [.im 2 (.clo 178 [.cp [.row 4 (List.map e_S_Bond fc4_0_0)] 0])]), (18, iv (w64 (x133))), (19, iv (w64 ((w64 (x133)) + m_2))), (20, iv start_20_e8_33)] [(0, some ⟨0, 0, true, false, false, false, [⟨.sh, 0, 0, .row 1 (List.map eI data_0)⟩]⟩)]) hl (by kernel_rfl) ?_ ?_ ?_
        · intro o p hp e
          exact nomatch (hp.1.symm.trans e)
        · rintro ⟨start_20_l33, r_21_l33⟩ o h
          unfold slices_symMergeCmpFunc_int64_l33 at h
          dsimp only at h
          refine Go.seq ?_
          refine Go.seq ?_
          refine Go.r0 c275 rfl rfl (sq z275 (oMv rfl rfl) <| sq z275 (oMv rfl rfl) <| sq z275 (oBi rfl rfl rfl rfl) <| nl) ?_
          refine Unw.seq ?_
          by_cases hc36 : start_20_l33 < r_21_l33
          · rw [if_pos hc36] at h
            refine Go.condT rfl (iDec.2 hc36) ?_
            refine Go.skip ?_
            refine Unw.seq ?_
            refine Go.block ?_
            refine Go.seq ?_
            obtain ⟨x156, hx156, h⟩ := bs h
            refine Go.r0 c275 rfl rfl (sq z275 (oMv rfl rfl) <| sq z275 (oMv rfl rfl) <| sq z275 (oBi rfl rfl rfl rfl) <| sq z275 (oCvI rfl uF3 uF364 rfl) <| sq z275 (oShr rfl hx156 rfl rfl) <| sq z275 (oCvI rfl uF364 uF3 rfl) <| sq z275 (oAsI rfl rfl) <| nl) ?_
            refine Unw.seq ?_
            refine Go.seq ?_
            obtain ⟨x163, hx163, h⟩ := bs h
            obtain ⟨x167, hx167, h⟩ := bs h
            obtain ⟨x169, hx169, h⟩ := bs h
            refine Go.dr c275 rfl rfl rfl rfl (mk [(0, .v false [.own 0 0 0]), (1, iv a_1), (2, iv m_2), (3, iv b_3), (4, .v false [.im 2 (.clo 178 [.cp [.row 4 (List.map e_S_Bond fc4_0_0)] 0])]), (18, iv (w64 (x133))), (19, iv (w64 ((w64 (x133)) + m_2))), (20, iv start_20_l33), (21, iv r_21_l33), (22, iv (w64 ((w64 ((w64 (x133)) + m_2)) - 1))), (23, iv (w64 (x156))), (171, bv (!(decide (x169 < 0))))] [(0, some ⟨0, 0, true, false, false, false, [⟨.sh, 0, 0, .row 1 (List.map eI data_0)⟩]⟩)]) (sT rfl (dN z275 rfl (oMv rfl rfl)) <| sT rfl (dN z275 rfl (oMv rfl rfl)) <| sT rfl (dN z275 rfl (oMv rfl rfl)) <| sT rfl (dN z275 rfl (oMv rfl rfl)) <| sT rfl (dN z275 rfl (oBi rfl rfl rfl rfl)) <| sT rfl (dN z275 rfl (oIAO rfl hx163 sF27 rfl rfl rfl rfl)) <| sT rfl (dN z275 rfl (oLdE (cs := [.im 0 _]) rfl tF2 rfl rfl rfl (fun e => nomatch e) (rd_get hx163) rfl rfl)) <| sT rfl (dN z275 rfl (oMv rfl rfl)) <| sT rfl (dN z275 rfl (oMv rfl rfl)) <| sT rfl (dN z275 rfl (oIAO rfl hx167 sF27 rfl rfl rfl rfl)) <| sT rfl (dN z275 rfl (oLdE (cs := [.im 0 _]) rfl tF2 rfl rfl rfl (fun e => nomatch e) (rd_get hx167) rfl rfl)) <| sS (dN z275 rfl (oCa (xs := [.v false [.im 0 _], .v false [.im 0 _], .v false [.im 2 _]]) (vs := [(false, [.im 0 _])]) (v := .v false [.im 0 _]) (L_impl_LongestFirst_c1 hx169) (.inr ⟨_, _, rfl, rfl⟩) rfl kF178_2_2_0 rfl (ppC rfl (ppC rfl (ppC rfl pp0))) rfl rfl pb0 rfl rfl rfl)) trivial (sT rfl (dN z275 rfl (oBi rfl rfl rfl rfl)) <| sT rfl (dN z275 rfl (oUn rfl rfl rfl)) <| sD (by kernel_rfl))) ?_
            refine Unw.seq ?_
            by_cases hc37 : x169 < 0
            · rw [if_pos hc37] at h
              refine Go.condF rfl (nF (iDec.2 hc37)) ?_
              refine Go.r0 c275 rfl rfl (sq z275 (oMv rfl rfl) <| sq z275 (oAsI rfl rfl) <| nl) ?_
              refine Unw.blk ?_
              refine Unw.nil ?_
              cases h
              exact ⟨rfl, (by kernel_rfl)⟩
            · rw [if_neg hc37] at h
              refine Go.condT rfl (nT (byF iDec hc37)) ?_
              refine Go.r0 c275 rfl rfl (sq z275 (oMv rfl rfl) <| sq z275 (oBi rfl rfl rfl rfl) <| sq z275 (oAsI rfl rfl) <| nl) ?_
              refine Unw.blk ?_
              refine Unw.nil ?_
              cases h
              exact ⟨rfl, (by kernel_rfl)⟩
          · rw [if_neg hc36] at h
            refine Go.condF rfl (byF iDec hc36) ?_
            refine Go.exit ?_
            refine Unw.seqx ?_
            refine Unw.nil ?_
            cases h
            exact ⟨rfl, (by kernel_rfl)⟩
        · rintro ⟨e, st⟩ hp
          obtain ⟨start_20_e8_33, rfl⟩ : ∃ y, y = o := ⟨o, rfl⟩
          obtain ⟨he, hst⟩ := hp
          obtain rfl : e = .exit 8 := he
          refine Unw.blkx ?_
          refine Unw.seq ?_
          refine Go.seq ?_
          refine Go.r1 c275 rfl rfl hst (sq z275 (oMv rfl rfl) <| sq z275 (oMv rfl rfl) <| sq z275 (oBi rfl rfl rfl rfl) <| sq z275 (oAsI rfl rfl) <| nl) ?_
          refine Unw.seq ?_
          refine Go.seq ?_
          refine Go.seq ?_
          refine Go.rX c275 rfl rfl rfl (mk [(0, .v false [.own 0 0 0]), (1, iv a_1), (2, iv m_2), (3, iv b_3), (4, .v false [.im 2 (.clo 178 [.cp [.row 4 (List.map e_S_Bond fc4_0_0)] 0])]), (18, iv (w64 (x133))), (20, iv start_20_e8_33), (24, iv (w64 ((w64 ((w64 (x133)) + m_2)) - start_20_e8_33))), (185, bv ((decide (start_20_e8_33 < m_2)) && (decide (m_2 < (w64 ((w64 ((w64 (x133)) + m_2)) - start_20_e8_33))))))] [(0, some ⟨0, 0, true, false, false, false, [⟨.sh, 0, 0, .row 1 (List.map eI data_0)⟩]⟩)]) ?_ ?_
          · by_cases hc26 : start_20_e8_33 < m_2
            · exact ⟨_, sq z275 (oMv rfl rfl) <| sq z275 (oMv rfl rfl) <| sq z275 (oBi rfl rfl rfl rfl) <| sq z275 (oMv rfl rfl) <| sgT z275 rfl rfl (iDec.2 hc26) (oMv rfl rfl) <| sgT z275 rfl rfl (iDec.2 hc26) (oMv rfl rfl) <| sgT z275 rfl rfl (iDec.2 hc26) (oBi rfl rfl rfl rfl) <| sq z275 (oPkT rfl rfl (iDec.2 hc26) rfl) <| nl, (Eq.trans (b := (fun t_185_m39 : Bool => mk [(0, .v false [.own 0 0 0]), (1, iv a_1), (2, iv m_2), (3, iv b_3), (4, .v false [.im 2 (.clo 178 [.cp [.row 4 (List.map e_S_Bond fc4_0_0)] 0])]), (18, iv (w64 (x133))), (20, iv start_20_e8_33), (24, iv (w64 ((w64 ((w64 (x133)) + m_2)) - start_20_e8_33))), (185, bv t_185_m39)] [(0, some ⟨0, 0, true, false, false, false, [⟨.sh, 0, 0, .row 1 (List.map eI data_0)⟩]⟩)]) (decide (m_2 < (w64 ((w64 ((w64 (x133)) + m_2)) - start_20_e8_33))))) (by kernel_rfl) (congrArg (fun t_185_m39 : Bool => mk [(0, .v false [.own 0 0 0]), (1, iv a_1), (2, iv m_2), (3, iv b_3), (4, .v false [.im 2 (.clo 178 [.cp [.row 4 (List.map e_S_Bond fc4_0_0)] 0])]), (18, iv (w64 (x133))), (20, iv start_20_e8_33), (24, iv (w64 ((w64 ((w64 (x133)) + m_2)) - start_20_e8_33))), (185, bv t_185_m39)] [(0, some ⟨0, 0, true, false, false, false, [⟨.sh, 0, 0, .row 1 (List.map eI data_0)⟩]⟩)]) (by first | rfl | (simp [(iDec.2 hc26)]; done) | (simp [(iDec.2 hc26)]; omega))))⟩
            · exact ⟨_, sq z275 (oMv rfl rfl) <| sq z275 (oMv rfl rfl) <| sq z275 (oBi rfl rfl rfl rfl) <| sq z275 (oMv rfl rfl) <| sgF rfl rfl (byF iDec hc26) rfl <| sgF rfl rfl (byF iDec hc26) rfl <| sgF rfl rfl (byF iDec hc26) rfl <| sq z275 (oPkF rfl rfl (byF iDec hc26) rfl) <| nl, (Eq.trans (b := (fun t_185_m39 : Bool => mk [(0, .v false [.own 0 0 0]), (1, iv a_1), (2, iv m_2), (3, iv b_3), (4, .v false [.im 2 (.clo 178 [.cp [.row 4 (List.map e_S_Bond fc4_0_0)] 0])]), (18, iv (w64 (x133))), (20, iv start_20_e8_33), (24, iv (w64 ((w64 ((w64 (x133)) + m_2)) - start_20_e8_33))), (185, bv t_185_m39)] [(0, some ⟨0, 0, true, false, false, false, [⟨.sh, 0, 0, .row 1 (List.map eI data_0)⟩]⟩)]) false) (by kernel_rfl) (congrArg (fun t_185_m39 : Bool => mk [(0, .v false [.own 0 0 0]), (1, iv a_1), (2, iv m_2), (3, iv b_3), (4, .v false [.im 2 (.clo 178 [.cp [.row 4 (List.map e_S_Bond fc4_0_0)] 0])]), (18, iv (w64 (x133))), (20, iv start_20_e8_33), (24, iv (w64 ((w64 ((w64 (x133)) + m_2)) - start_20_e8_33))), (185, bv t_185_m39)] [(0, some ⟨0, 0, true, false, false, false, [⟨.sh, 0, 0, .row 1 (List.map eI data_0)⟩]⟩)]) (by first | rfl | (simp [(byF iDec hc26)]; done) | (simp [(byF iDec hc26)]; omega))))⟩
          · refine Unw.seq ?_
            refine Go.join (fun st => ∃ data_o0_r41, slices_symMergeCmpFunc_int64_k41 self a_1 b_3 (fun b0 b1 => impl_LongestFirst_c1 b0 b1 fc4_0_0) m_2 start_20_e8_33 x133 data_o0_r41 = some r ∧ st.norm ([0, 1, 3, 4, 18, 20, 24], [0]) = mk [(0, .v false [.own 0 0 0]), (1, iv a_1), (3, iv b_3), (4, .v false [.im 2 (.clo 178 [.cp [.row 4 (List.map e_S_Bond fc4_0_0)] 0])]), (18, iv (w64 (x133))), (20, iv start_20_e8_33), (24, iv (w64 ((w64 ((w64 (x133)) + m_2)) - start_20_e8_33)))] [(0, some ⟨0, 0, true, false, false, false, [⟨.sh, 0, 0, .row 1 (List.map eI data_o0_r41)⟩]⟩)]) ?_ ?_
            · rintro st ⟨data_o0_r41, h, hst⟩
              unfold slices_symMergeCmpFunc_int64_k41 at h
              refine Unw.seq ?_
              refine Go.seq ?_
              refine Go.seq ?_
              refine Go.rX c275 rfl rfl hst (mk [(0, .v false [.own 0 0 0]), (1, iv a_1), (3, iv b_3), (4, .v false [.im 2 (.clo 178 [.cp [.row 4 (List.map e_S_Bond fc4_0_0)] 0])]), (18, iv (w64 (x133))), (20, iv start_20_e8_33), (24, iv (w64 ((w64 ((w64 (x133)) + m_2)) - start_20_e8_33))), (199, bv ((decide (a_1 < start_20_e8_33)) && (decide (start_20_e8_33 < (w64 (x133))))))] [(0, some ⟨0, 0, true, false, false, false, [⟨.sh, 0, 0, .row 1 (List.map eI data_o0_r41)⟩]⟩)]) ?_ ?_
              · by_cases hc28 : a_1 < start_20_e8_33
                · exact ⟨_, sq z275 (oMv rfl rfl) <| sq z275 (oMv rfl rfl) <| sq z275 (oBi rfl rfl rfl rfl) <| sq z275 (oMv rfl rfl) <| sgT z275 rfl rfl (iDec.2 hc28) (oMv rfl rfl) <| sgT z275 rfl rfl (iDec.2 hc28) (oMv rfl rfl) <| sgT z275 rfl rfl (iDec.2 hc28) (oBi rfl rfl rfl rfl) <| sq z275 (oPkT rfl rfl (iDec.2 hc28) rfl) <| nl, (Eq.trans (b := (fun t_199_m41 : Bool => mk [(0, .v false [.own 0 0 0]), (1, iv a_1), (3, iv b_3), (4, .v false [.im 2 (.clo 178 [.cp [.row 4 (List.map e_S_Bond fc4_0_0)] 0])]), (18, iv (w64 (x133))), (20, iv start_20_e8_33), (24, iv (w64 ((w64 ((w64 (x133)) + m_2)) - start_20_e8_33))), (199, bv t_199_m41)] [(0, some ⟨0, 0, true, false, false, false, [⟨.sh, 0, 0, .row 1 (List.map eI data_o0_r41)⟩]⟩)]) (decide (start_20_e8_33 < (w64 (x133))))) (by kernel_rfl) (congrArg (fun t_199_m41 : Bool => mk [(0, .v false [.own 0 0 0]), (1, iv a_1), (3, iv b_3), (4, .v false [.im 2 (.clo 178 [.cp [.row 4 (List.map e_S_Bond fc4_0_0)] 0])]), (18, iv (w64 (x133))), (20, iv start_20_e8_33), (24, iv (w64 ((w64 ((w64 (x133)) + m_2)) - start_20_e8_33))), (199, bv t_199_m41)] [(0, some ⟨0, 0, true, false, false, false, [⟨.sh, 0, 0, .row 1 (List.map eI data_o0_r41)⟩]⟩)]) (by first | rfl | (simp [(iDec.2 hc28)]; done) | (simp [(iDec.2 hc28)]; omega))))⟩
                · exact ⟨_, sq z275 (oMv rfl rfl) <| sq z275 (oMv rfl rfl) <| sq z275 (oBi rfl rfl rfl rfl) <| sq z275 (oMv rfl rfl) <| sgF rfl rfl (byF iDec hc28) rfl <| sgF rfl rfl (byF iDec hc28) rfl <| sgF rfl rfl (byF iDec hc28) rfl <| sq z275 (oPkF rfl rfl (byF iDec hc28) rfl) <| nl, (Eq.trans (b := (fun t_199_m41 : Bool => mk [(0, .v false [.own 0 0 0]), (1, iv a_1), (3, iv b_3), (4, .v false [.im 2 (.clo 178 [.cp [.row 4 (List.map e_S_Bond fc4_0_0)] 0])]), (18, iv (w64 (x133))), (20, iv start_20_e8_33), (24, iv (w64 ((w64 ((w64 (x133)) + m_2)) - start_20_e8_33))), (199, bv t_199_m41)] [(0, some ⟨0, 0, true, false, false, false, [⟨.sh, 0, 0, .row 1 (List.map eI data_o0_r41)⟩]⟩)]) false) (by kernel_rfl) (congrArg (fun t_199_m41 : Bool => mk [(0, .v false [.own 0 0 0]), (1, iv a_1), (3, iv b_3), (4, .v false [.im 2 (.clo 178 [.cp [.row 4 (List.map e_S_Bond fc4_0_0)] 0])]), (18, iv (w64 (x133))), (20, iv start_20_e8_33), (24, iv (w64 ((w64 ((w64 (x133)) + m_2)) - start_20_e8_33))), (199, bv t_199_m41)] [(0, some ⟨0, 0, true, false, false, false, [⟨.sh, 0, 0, .row 1 (List.map eI data_o0_r41)⟩]⟩)]) (by first | rfl | (simp [(byF iDec hc28)]; done) | (simp [(byF iDec hc28)]; omega))))⟩
              · refine Unw.seq ?_
                refine Go.join (fun st => ∃ data_o0_r43, slices_symMergeCmpFunc_int64_k43 self b_3 (fun b0 b1 => impl_LongestFirst_c1 b0 b1 fc4_0_0) m_2 start_20_e8_33 x133 data_o0_r43 = some r ∧ st.norm ([0, 3, 4, 18, 24], [0]) = mk [(0, .v false [.own 0 0 0]), (3, iv b_3), (4, .v false [.im 2 (.clo 178 [.cp [.row 4 (List.map e_S_Bond fc4_0_0)] 0])]), (18, iv (w64 (x133))), (24, iv (w64 ((w64 ((w64 (x133)) + m_2)) - start_20_e8_33)))] [(0, some ⟨0, 0, true, false, false, false, [⟨.sh, 0, 0, .row 1 (List.map eI data_o0_r43)⟩]⟩)]) ?_ ?_
                · rintro st ⟨data_o0_r43, h, hst⟩
                  unfold slices_symMergeCmpFunc_int64_k43 at h
                  refine Unw.seq ?_
                  refine Go.seq ?_
                  refine Go.rX c275 rfl rfl hst (mk [(0, .v false [.own 0 0 0]), (3, iv b_3), (4, .v false [.im 2 (.clo 178 [.cp [.row 4 (List.map e_S_Bond fc4_0_0)] 0])]), (18, iv (w64 (x133))), (24, iv (w64 ((w64 ((w64 (x133)) + m_2)) - start_20_e8_33))), (213, bv ((decide ((w64 (x133)) < (w64 ((w64 ((w64 (x133)) + m_2)) - start_20_e8_33)))) && (decide ((w64 ((w64 ((w64 (x133)) + m_2)) - start_20_e8_33)) < b_3))))] [(0, some ⟨0, 0, true, false, false, false, [⟨.sh, 0, 0, .row 1 (List.map eI data_o0_r43)⟩]⟩)]) ?_ ?_
                  · by_cases hc30 : (w64 (x133)) < (w64 ((w64 ((w64 (x133)) + m_2)) - start_20_e8_33))
                    · exact ⟨_, sq z275 (oMv rfl rfl) <| sq z275 (oMv rfl rfl) <| sq z275 (oBi rfl rfl rfl rfl) <| sq z275 (oMv rfl rfl) <| sgT z275 rfl rfl (iDec.2 hc30) (oMv rfl rfl) <| sgT z275 rfl rfl (iDec.2 hc30) (oMv rfl rfl) <| sgT z275 rfl rfl (iDec.2 hc30) (oBi rfl rfl rfl rfl) <| sq z275 (oPkT rfl rfl (iDec.2 hc30) rfl) <| nl, (Eq.trans (b := (fun t_213_m43 : Bool => mk [(0, .v false [.own 0 0 0]), (3, iv b_3), (4, .v false [.im 2 (.clo 178 [.cp [.row 4 (List.map e_S_Bond fc4_0_0)] 0])]), (18, iv (w64 (x133))), (24, iv (w64 ((w64 ((w64 (x133)) + m_2)) - start_20_e8_33))), (213, bv t_213_m43)] [(0, some ⟨0, 0, true, false, false, false, [⟨.sh, 0, 0, .row 1 (List.map eI data_o0_r43)⟩]⟩)]) (decide ((w64 ((w64 ((w64 (x133)) + m_2)) - start_20_e8_33)) < b_3))) (by kernel_rfl) (congrArg (fun t_213_m43 : Bool => mk [(0, .v false [.own 0 0 0]), (3, iv b_3), (4, .v false [.im 2 (.clo 178 [.cp [.row 4 (List.map e_S_Bond fc4_0_0)] 0])]), (18, iv (w64 (x133))), (24, iv (w64 ((w64 ((w64 (x133)) + m_2)) - start_20_e8_33))), (213, bv t_213_m43)] [(0, some ⟨0, 0, true, false, false, false, [⟨.sh, 0, 0, .row 1 (List.map eI data_o0_r43)⟩]⟩)]) (by first | rfl | (simp [(iDec.2 hc30)]; done) | (simp [(iDec.2 hc30)]; omega))))⟩
                    · exact ⟨_, sq z275 (oMv rfl rfl) <| sq z275 (oMv rfl rfl) <| sq z275 (oBi rfl rfl rfl rfl) <| sq z275 (oMv rfl rfl) <| sgF rfl rfl (byF iDec hc30) rfl <| sgF rfl rfl (byF iDec hc30) rfl <| sgF rfl rfl (byF iDec hc30) rfl <| sq z275 (oPkF rfl rfl (byF iDec hc30) rfl) <| nl, (Eq.trans (b := (fun t_213_m43 : Bool => mk [(0, .v false [.own 0 0 0]), (3, iv b_3), (4, .v false [.im 2 (.clo 178 [.cp [.row 4 (List.map e_S_Bond fc4_0_0)] 0])]), (18, iv (w64 (x133))), (24, iv (w64 ((w64 ((w64 (x133)) + m_2)) - start_20_e8_33))), (213, bv t_213_m43)] [(0, some ⟨0, 0, true, false, false, false, [⟨.sh, 0, 0, .row 1 (List.map eI data_o0_r43)⟩]⟩)]) false) (by kernel_rfl) (congrArg (fun t_213_m43 : Bool => mk [(0, .v false [.own 0 0 0]), (3, iv b_3), (4, .v false [.im 2 (.clo 178 [.cp [.row 4 (List.map e_S_Bond fc4_0_0)] 0])]), (18, iv (w64 (x133))), (24, iv (w64 ((w64 ((w64 (x133)) + m_2)) - start_20_e8_33))), (213, bv t_213_m43)] [(0, some ⟨0, 0, true, false, false, false, [⟨.sh, 0, 0, .row 1 (List.map eI data_o0_r43)⟩]⟩)]) (by first | rfl | (simp [(byF iDec hc30)]; done) | (simp [(byF iDec hc30)]; omega))))⟩
                  · refine Unw.seq ?_
                    by_cases hc31 : ((w64 (x133)) < (w64 ((w64 ((w64 (x133)) + m_2)) - start_20_e8_33)) ∧ (w64 ((w64 ((w64 (x133)) + m_2)) - start_20_e8_33)) < b_3)
                    · rw [if_pos hc31] at h
                      refine Go.condT rfl ((iAnd iDec iDec).2 hc31) ?_
                      obtain ⟨x219, hx219, h⟩ := bs h
                      refine Go.r0 c275 rfl rfl (sq z275 (oMv rfl rfl) <| sq z275 (oMv rfl rfl) <| sq z275 (oMv rfl rfl) <| sq z275 (oMv rfl rfl) <| sq z275 (oMv rfl rfl) <| sq z275 (oCa (xs := [.v false [.own 0 0 0], .v false [.im 0 _], .v false [.im 0 _], .v false [.im 0 _], .v false [.im 2 _]]) (vs := []) (v := .tup []) (ih hx219) (.inl rfl) rfl kF275_27_3_3_3_273 rfl (ppC rfl (ppC rfl (ppC rfl (ppC rfl (ppC rfl pp0))))) rfl rfl (pbO rfl rfl rfl rfl pb0) rfl rfl rfl) <| nl) ?_
                      refine Unw.nil ?_
                      cases h
                      exact Fin_end (fin_of rfl rF275 rfl (by kernel_rfl))
                    · rw [if_neg hc31] at h
                      refine Go.condF rfl (byF (iAnd iDec iDec) hc31) ?_
                      refine Go.skip ?_
                      refine Unw.nil ?_
                      cases h
                      exact Fin_end (fin_of rfl rF275 rfl (by kernel_rfl))
                · intro K32
                  by_cases hc33 : (a_1 < start_20_e8_33 ∧ start_20_e8_33 < (w64 (x133)))
                  · rw [if_pos hc33] at h
                    refine Go.condT rfl ((iAnd iDec iDec).2 hc33) ?_
                    obtain ⟨x205, hx205, h⟩ := bs h
                    refine Go.r0 c275 rfl rfl (sq z275 (oMv rfl rfl) <| sq z275 (oMv rfl rfl) <| sq z275 (oMv rfl rfl) <| sq z275 (oMv rfl rfl) <| sq z275 (oMv rfl rfl) <| sq z275 (oCa (xs := [.v false [.own 0 0 0], .v false [.im 0 _], .v false [.im 0 _], .v false [.im 0 _], .v false [.im 2 _]]) (vs := []) (v := .tup []) (ih hx205) (.inl rfl) rfl kF275_27_3_3_3_273 rfl (ppC rfl (ppC rfl (ppC rfl (ppC rfl (ppC rfl pp0))))) rfl rfl (pbO rfl rfl rfl rfl pb0) rfl rfl rfl) <| nl) ?_
                    exact K32 _ ⟨x205, h, (by kernel_rfl)⟩
                  · rw [if_neg hc33] at h
                    refine Go.condF rfl (byF (iAnd iDec iDec) hc33) ?_
                    refine Go.skip ?_
                    exact K32 _ ⟨data_o0_r41, h, (by kernel_rfl)⟩
            · intro K34
              by_cases hc35 : (start_20_e8_33 < m_2 ∧ m_2 < (w64 ((w64 ((w64 (x133)) + m_2)) - start_20_e8_33)))
              · rw [if_pos hc35] at h
                refine Go.condT rfl ((iAnd iDec iDec).2 hc35) ?_
                obtain ⟨x191, hx191, h⟩ := bs h
                refine Go.r0 c275 rfl rfl (sq z275 (oMv rfl rfl) <| sq z275 (oMv rfl rfl) <| sq z275 (oMv rfl rfl) <| sq z275 (oMv rfl rfl) <| sq z275 (oMv rfl rfl) <| sq z275 (oCa (xs := [.v false [.own 0 0 0], .v false [.im 0 _], .v false [.im 0 _], .v false [.im 0 _], .v false [.im 2 _]]) (vs := []) (v := .tup []) (L_slices_rotateCmpFunc_int64_178 hx191) (.inl rfl) rfl kF285_27_3_3_3_273 rfl (ppC rfl (ppC rfl (ppC rfl (ppC rfl (ppC rfl pp0))))) rfl rfl (pbO rfl rfl rfl rfl pb0) rfl rfl rfl) <| nl) ?_
                exact K34 _ ⟨x191, h, (by kernel_rfl)⟩
              · rw [if_neg hc35] at h
                refine Go.condF rfl (byF (iAnd iDec iDec) hc35) ?_
                refine Go.skip ?_
                exact K34 _ ⟨data_0, h, (by kernel_rfl)⟩
      · intro K38
        by_cases hc39 : m_2 > (w64 (x133))
        · rw [if_pos hc39] at h
          refine Go.condT rfl (iDec.2 hc39) ?_
          refine Go.seq ?_
          refine Go.r0 c275 rfl rfl (sq z275 (oMv rfl rfl) <| sq z275 (oMv rfl rfl) <| sq z275 (oBi rfl rfl rfl rfl) <| sq z275 (oAsI rfl rfl) <| nl) ?_
          refine Unw.seq ?_
          refine Go.r0 c275 rfl rfl (sq z275 (oMv rfl rfl) <| sq z275 (oAsI rfl rfl) <| nl) ?_
          exact K38 _ ⟨(w64 ((w64 ((w64 (x133)) + m_2)) - b_3)), (w64 (x133)), h, (by kernel_rfl)⟩
        · rw [if_neg hc39] at h
          refine Go.condF rfl (byF iDec hc39) ?_
          refine Go.seq ?_
          refine Go.r0 c275 rfl rfl (sq z275 (oMv rfl rfl) <| sq z275 (oAsI rfl rfl) <| nl) ?_
          refine Unw.seq ?_
          refine Go.r0 c275 rfl rfl (sq z275 (oMv rfl rfl) <| sq z275 (oAsI rfl rfl) <| nl) ?_
          exact K38 _ ⟨a_1, m_2, h, (by kernel_rfl)⟩
theorem L_slices_symMergeCmpFunc_int64_178 {data_0 : (List Int)} {a_1 : Int} {m_2 : Int} {b_3 : Int} {fc4_0_0 : (List S_Bond)} {r : (List Int)} (h : slices_symMergeCmpFunc_int64 data_0 a_1 m_2 b_3 (fun b0 b1 => impl_LongestFirst_c1 b0 b1 fc4_0_0) = some r) : FL Try.prog cfg 275 [.ow 1 (List.map eI data_0), .im 2 false [.sc (.int .i64 a_1)], .im 2 false [.sc (.int .i64 m_2)], .im 2 false [.sc (.int .i64 b_3)], .im 2 false [.clo 178 [.cp [.row 4 (List.map e_S_Bond fc4_0_0)] 0]]] = some ([], [.ow 1 (List.map eI r)]) := by
  unfold slices_symMergeCmpFunc_int64 at h
  obtain ⟨n, hn⟩ := fixO_iter h
  clear h
  induction n generalizing data_0 a_1 m_2 b_3 r with
  | zero => cases hn
  | succ n ihn => exact L_slices_symMergeCmpFunc_int64_178_F (self := iterO _ n) (fun h => ihn h) hn
theorem L_slices_stableCmpFunc_int64_178 {data_0 : (List Int)} {n_1 : Int} {fc2_0_0 : (List S_Bond)} {r : (List Int)} (h : slices_stableCmpFunc_int64 data_0 n_1 (fun b0 b1 => impl_LongestFirst_c1 b0 b1 fc2_0_0) = some r) : FL Try.prog cfg 245 [.ow 1 (List.map eI data_0), .im 2 false [.sc (.int .i64 n_1)], .im 2 false [.clo 178 [.cp [.row 4 (List.map e_S_Bond fc2_0_0)] 0]]] = some ([], [.ow 1 (List.map eI r)]) := by
  unfold slices_stableCmpFunc_int64 at h
  refine FL_goS (A := [(0, .v false [.own 0 0 0]), (1, .v false [.im 2 (.sc (.int .i64 n_1))]), (2, .v false [.im 2 (.clo 178 [.cp [.row 4 (List.map e_S_Bond fc2_0_0)] 0])])]) (B := [(0, some ⟨0, 0, true, false, false, false, [⟨.sh, 0, 0, .row 1 (List.map eI data_0)⟩]⟩), (1, none), (2, none)]) (nt := 63) rfl rfl Try.func245 rfl rfl rfl rfl ?_
  refine Go.seq ?_
  refine Go.r0 c245 rfl rfl (sq z245 (oAsI rfl rfl) <| nl) ?_
  refine Unw.seq ?_
  refine Go.seq ?_
  refine Go.r0 c245 rfl rfl (sq z245 (oMv rfl rfl) <| sq z245 (oAsI rfl rfl) <| sq z245 (oAsI rfl rfl) <| nl) ?_
  refine Unw.seq ?_
  refine Go.seq ?_
  refine Go.block ?_
  obtain ⟨o, hl, h⟩ := bs h
  refine Go.lp c245 rfl _ (fun (s : (Int × Int × (List Int))) => match s with | (a_7_l2, b_8_l2, data_o0_l2) => mk [(0, .v false [.own 0 0 0]), (1, iv n_1), (2, .v false [.im 2 (.clo 178 [.cp [.row 4 (List.map e_S_Bond fc2_0_0)] 0])]), (6, iv 20), (7, iv a_7_l2), (8, iv b_8_l2)] [(0, some ⟨0, 0, true, false, false, false, [⟨.sh, 0, 0, .row 1 (List.map eI data_o0_l2)⟩]⟩)]) (fun (o : (Int × (List Int))) (p : Ex × St) => match o with | (a_7_e0_2, data_o0_e0_2) => p.1 = .exit 0 ∧ p.2.norm ([0, 1, 2, 6, 7], [0]) = mk [(0, .v false [.own 0 0 0]), (1, iv n_1), (2, .v false [.im 2 (.clo 178 [.cp [.row 4 (List.map e_S_Bond fc2_0_0)] 0])]), (6, iv 20), (7, iv a_7_e0_2)] [(0, some ⟨0, 0, true, false, false, false, [⟨.sh, 0, 0, .row 1 (List.map eI data_o0_e0_2)⟩]⟩)]) hl (by kernel_rfl) ?_ ?_ ?_
  · intro o p hp e
    obtain ⟨a_7_e0_2, data_o0_e0_2⟩ := o
    exact nomatch (hp.1.symm.trans e)
  · rintro ⟨a_7_l2, b_8_l2, data_o0_l2⟩ o h
    unfold slices_stableCmpFunc_int64_l2 at h
    dsimp only at h
    refine Go.seq ?_
    refine Go.seq ?_
    refine Go.r0 c245 rfl rfl (sq z245 (oMv rfl rfl) <| sq z245 (oMv rfl rfl) <| sq z245 (oBi rfl rfl rfl rfl) <| nl) ?_
    refine Unw.seq ?_
    by_cases hc18 : b_8_l2 ≤ n_1
    · rw [if_pos hc18] at h
      refine Go.condT rfl (iDec.2 hc18) ?_
      refine Go.skip ?_
      refine Unw.seq ?_
      refine Go.block ?_
      refine Go.seq ?_
      obtain ⟨x18, hx18, h⟩ := bs h
      refine Go.r0 c245 rfl rfl (sq z245 (oMv rfl rfl) <| sq z245 (oMv rfl rfl) <| sq z245 (oMv rfl rfl) <| sq z245 (oMv rfl rfl) <| sq z245 (oCa (xs := [.v false [.own 0 0 0], .v false [.im 0 _], .v false [.im 0 _], .v false [.im 2 _]]) (vs := []) (v := .tup []) (L_slices_insertionSortCmpFunc_int64_178 hx18) (.inl rfl) rfl kF274_27_3_3_273 rfl (ppC rfl (ppC rfl (ppC rfl (ppC rfl pp0)))) rfl rfl (pbO rfl rfl rfl rfl pb0) rfl rfl rfl) <| nl) ?_
      refine Unw.seq ?_
      refine Go.seq ?_
      refine Go.r1 c245 rfl rfl (st1 := mk [(0, .v false [.own 0 0 0]), (1, iv n_1), (2, .v false [.im 2 (.clo 178 [.cp [.row 4 (List.map e_S_Bond fc2_0_0)] 0])]), (6, iv 20), (8, iv b_8_l2)] [(0, some ⟨0, 0, true, false, false, false, [⟨.sh, 0, 0, .row 1 (List.map eI x18)⟩]⟩)]) (by kernel_rfl) (sq z245 (oMv rfl rfl) <| sq z245 (oAsI rfl rfl) <| nl) ?_
      refine Unw.seq ?_
      refine Go.r0 c245 rfl rfl (sq z245 (oMv rfl rfl) <| sq z245 (oMv rfl rfl) <| sq z245 (oBi rfl rfl rfl rfl) <| sq z245 (oAsI rfl rfl) <| nl) ?_
      refine Unw.blk ?_
      refine Unw.nil ?_
      cases h
      exact ⟨rfl, (by kernel_rfl)⟩
    · rw [if_neg hc18] at h
      refine Go.condF rfl (byF iDec hc18) ?_
      refine Go.exit ?_
      refine Unw.seqx ?_
      refine Unw.nil ?_
      cases h
      exact ⟨rfl, (by kernel_rfl)⟩
  · rintro ⟨e, st⟩ hp
    obtain ⟨a_7_e0_2, data_o0_e0_2⟩ := o
    dsimp only at h
    obtain ⟨he, hst⟩ := hp
    obtain rfl : e = .exit 0 := he
    refine Unw.blkx ?_
    refine Unw.seq ?_
    refine Go.seq ?_
    obtain ⟨x27, hx27, h⟩ := bs h
    refine Go.r1 c245 rfl rfl hst (sq z245 (oMv rfl rfl) <| sq z245 (oMv rfl rfl) <| sq z245 (oMv rfl rfl) <| sq z245 (oMv rfl rfl) <| sq z245 (oCa (xs := [.v false [.own 0 0 0], .v false [.im 0 _], .v false [.im 0 _], .v false [.im 2 _]]) (vs := []) (v := .tup []) (L_slices_insertionSortCmpFunc_int64_178 hx27) (.inl rfl) rfl kF274_27_3_3_273 rfl (ppC rfl (ppC rfl (ppC rfl (ppC rfl pp0)))) rfl rfl (pbO rfl rfl rfl rfl pb0) rfl rfl rfl) <| nl) ?_
    refine Unw.seq ?_
    refine Go.block ?_
    obtain ⟨o, hl, h⟩ := bs h
    refine Go.lp c245 rfl _ (fun (s : (Int × (List Int))) => match s with | (blockSize_6_l7, data_o0_l7) => mk [(0, .v false [.own 0 0 0]), (1, iv n_1), (2, .v false [.im 2 (.clo 178 [.cp [.row 4 (List.map e_S_Bond fc2_0_0)] 0])]), (6, iv blockSize_6_l7)] [(0, some ⟨0, 0, true, false, false, false, [⟨.sh, 0, 0, .row 1 (List.map eI data_o0_l7)⟩]⟩)]) (fun (r2 : (List Int)) (p : Ex × St) => p.1 = .exit 2 ∧ fin Try.prog cfg 245 Try.f245 [.ow 1 (List.map eI data_0), .im 2 false [.sc (.int .i64 n_1)], .im 2 false [.clo 178 [.cp [.row 4 (List.map e_S_Bond fc2_0_0)] 0]]] p.2 = some ([], [.ow 1 (List.map eI r2)])) hl (by kernel_rfl) ?_ ?_ ?_
    · intro o p hp e
      exact nomatch (hp.1.symm.trans e)
    · rintro ⟨blockSize_6_l7, data_o0_l7⟩ o h
      unfold slices_stableCmpFunc_int64_l7 at h
      dsimp only at h
      refine Go.seq ?_
      refine Go.seq ?_
      refine Go.r0 c245 rfl rfl (sq z245 (oMv rfl rfl) <| sq z245 (oMv rfl rfl) <| sq z245 (oBi rfl rfl rfl rfl) <| nl) ?_
      refine Unw.seq ?_
      by_cases hc11 : blockSize_6_l7 < n_1
      · rw [if_pos hc11] at h
        refine Go.condT rfl (iDec.2 hc11) ?_
        refine Go.skip ?_
        refine Unw.seq ?_
        refine Go.block ?_
        refine Go.seq ?_
        refine Go.r0 c245 rfl rfl (sq z245 (oMv rfl rfl) <| sq z245 (oBi rfl rfl rfl rfl) <| sq z245 (oAsI rfl rfl) <| sq z245 (oAsI rfl rfl) <| nl) ?_
        refine Unw.seq ?_
        refine Go.seq ?_
        refine Go.block ?_
        obtain ⟨o, hl, h⟩ := bs h
        refine Go.lp c245 rfl _ (fun (s : (Int × Int × (List Int))) => match s with | (a_7_l9, b_8_l9, data_o0_l9) => mk [(0, .v false [.own 0 0 0]), (1, iv n_1), (2, .v false [.im 2 (.clo 178 [.cp [.row 4 (List.map e_S_Bond fc2_0_0)] 0])]), (6, iv blockSize_6_l7), (7, iv a_7_l9), (8, iv b_8_l9)] [(0, some ⟨0, 0, true, false, false, false, [⟨.sh, 0, 0, .row 1 (List.map eI data_o0_l9)⟩]⟩)]) (fun (o : (Int × (List Int))) (p : Ex × St) => match o with | (a_7_e4_9, data_o0_e4_9) => p.1 = .exit 4 ∧ p.2.norm ([0, 1, 2, 6, 7], [0]) = mk [(0, .v false [.own 0 0 0]), (1, iv n_1), (2, .v false [.im 2 (.clo 178 [.cp [.row 4 (List.map e_S_Bond fc2_0_0)] 0])]), (6, iv blockSize_6_l7), (7, iv a_7_e4_9)] [(0, some ⟨0, 0, true, false, false, false, [⟨.sh, 0, 0, .row 1 (List.map eI data_o0_e4_9)⟩]⟩)]) hl (by kernel_rfl) ?_ ?_ ?_
        · intro o p hp e
          obtain ⟨a_7_e4_9, data_o0_e4_9⟩ := o
          exact nomatch (hp.1.symm.trans e)
        · rintro ⟨a_7_l9, b_8_l9, data_o0_l9⟩ o h
          unfold slices_stableCmpFunc_int64_l9 at h
          dsimp only at h
          refine Go.seq ?_
          refine Go.seq ?_
          refine Go.r0 c245 rfl rfl (sq z245 (oMv rfl rfl) <| sq z245 (oMv rfl rfl) <| sq z245 (oBi rfl rfl rfl rfl) <| nl) ?_
          refine Unw.seq ?_
          by_cases hc17 : b_8_l9 ≤ n_1
          · rw [if_pos hc17] at h
            refine Go.condT rfl (iDec.2 hc17) ?_
            refine Go.skip ?_
            refine Unw.seq ?_
            refine Go.block ?_
            refine Go.seq ?_
            obtain ⟨x43, hx43, h⟩ := bs h
            refine Go.r0 c245 rfl rfl (sq z245 (oMv rfl rfl) <| sq z245 (oMv rfl rfl) <| sq z245 (oMv rfl rfl) <| sq z245 (oMv rfl rfl) <| sq z245 (oBi rfl rfl rfl rfl) <| sq z245 (oMv rfl rfl) <| sq z245 (oMv rfl rfl) <| sq z245 (oCa (xs := [.v false [.own 0 0 0], .v false [.im 0 _], .v false [.im 0 _], .v false [.im 0 _], .v false [.im 2 _]]) (vs := []) (v := .tup []) (L_slices_symMergeCmpFunc_int64_178 hx43) (.inl rfl) rfl kF275_27_3_3_3_273 rfl (ppC rfl (ppC rfl (ppC rfl (ppC rfl (ppC rfl pp0))))) rfl rfl (pbO rfl rfl rfl rfl pb0) rfl rfl rfl) <| nl) ?_
            refine Unw.seq ?_
            refine Go.seq ?_
            refine Go.r1 c245 rfl rfl (st1 := mk [(0, .v false [.own 0 0 0]), (1, iv n_1), (2, .v false [.im 2 (.clo 178 [.cp [.row 4 (List.map e_S_Bond fc2_0_0)] 0])]), (6, iv blockSize_6_l7), (8, iv b_8_l9)] [(0, some ⟨0, 0, true, false, false, false, [⟨.sh, 0, 0, .row 1 (List.map eI x43)⟩]⟩)]) (by kernel_rfl) (sq z245 (oMv rfl rfl) <| sq z245 (oAsI rfl rfl) <| nl) ?_
            refine Unw.seq ?_
            refine Go.r0 c245 rfl rfl (sq z245 (oMv rfl rfl) <| sq z245 (oMv rfl rfl) <| sq z245 (oBi rfl rfl rfl rfl) <| sq z245 (oBi rfl rfl rfl rfl) <| sq z245 (oAsI rfl rfl) <| nl) ?_
            refine Unw.blk ?_
            refine Unw.nil ?_
            cases h
            exact ⟨rfl, (by kernel_rfl)⟩
          · rw [if_neg hc17] at h
            refine Go.condF rfl (byF iDec hc17) ?_
            refine Go.exit ?_
            refine Unw.seqx ?_
            refine Unw.nil ?_
            cases h
            exact ⟨rfl, (by kernel_rfl)⟩
        · rintro ⟨e, st⟩ hp
          obtain ⟨a_7_e4_9, data_o0_e4_9⟩ := o
          dsimp only at h
          obtain ⟨he, hst⟩ := hp
          obtain rfl : e = .exit 4 := he
          refine Unw.blkx ?_
          refine Unw.seq ?_
          refine Go.seq ?_
          refine Go.seq ?_
          refine Go.r1 c245 rfl rfl hst (sq z245 (oMv rfl rfl) <| sq z245 (oMv rfl rfl) <| sq z245 (oBi rfl rfl rfl rfl) <| sq z245 (oAsI rfl rfl) <| nl) ?_
          refine Unw.seq ?_
          refine Go.seq ?_
          refine Go.r0 c245 rfl rfl (sq z245 (oMv rfl rfl) <| sq z245 (oMv rfl rfl) <| sq z245 (oBi rfl rfl rfl rfl) <| nl) ?_
          refine Unw.seq ?_
          refine Go.join (fun st => ∃ data_o0_r16, slices_stableCmpFunc_int64_k16 blockSize_6_l7 data_o0_r16 = some o ∧ st.norm ([0, 1, 2, 6], [0]) = mk [(0, .v false [.own 0 0 0]), (1, iv n_1), (2, .v false [.im 2 (.clo 178 [.cp [.row 4 (List.map e_S_Bond fc2_0_0)] 0])]), (6, iv blockSize_6_l7)] [(0, some ⟨0, 0, true, false, false, false, [⟨.sh, 0, 0, .row 1 (List.map eI data_o0_r16)⟩]⟩)]) ?_ ?_
          · rintro st ⟨data_o0_r16, h, hst⟩
            unfold slices_stableCmpFunc_int64_k16 at h
            refine Unw.seq ?_
            refine Go.r1 c245 rfl rfl hst (sq z245 (oMv rfl rfl) <| sq z245 (oBi rfl rfl rfl rfl) <| sq z245 (oAsI rfl rfl) <| nl) ?_
            refine Unw.blk ?_
            refine Unw.nil ?_
            cases h
            exact ⟨rfl, (by kernel_rfl)⟩
          · intro K15
            by_cases hc16 : (w64 (a_7_e4_9 + blockSize_6_l7)) < n_1
            · rw [if_pos hc16] at h
              refine Go.condT rfl (iDec.2 hc16) ?_
              obtain ⟨x60, hx60, h⟩ := bs h
              refine Go.r0 c245 rfl rfl (sq z245 (oMv rfl rfl) <| sq z245 (oMv rfl rfl) <| sq z245 (oMv rfl rfl) <| sq z245 (oMv rfl rfl) <| sq z245 (oMv rfl rfl) <| sq z245 (oCa (xs := [.v false [.own 0 0 0], .v false [.im 0 _], .v false [.im 0 _], .v false [.im 0 _], .v false [.im 2 _]]) (vs := []) (v := .tup []) (L_slices_symMergeCmpFunc_int64_178 hx60) (.inl rfl) rfl kF275_27_3_3_3_273 rfl (ppC rfl (ppC rfl (ppC rfl (ppC rfl (ppC rfl pp0))))) rfl rfl (pbO rfl rfl rfl rfl pb0) rfl rfl rfl) <| nl) ?_
              exact K15 _ ⟨x60, h, (by kernel_rfl)⟩
            · rw [if_neg hc16] at h
              refine Go.condF rfl (byF iDec hc16) ?_
              refine Go.skip ?_
              exact K15 _ ⟨data_o0_e4_9, h, (by kernel_rfl)⟩
      · rw [if_neg hc11] at h
        refine Go.condF rfl (byF iDec hc11) ?_
        refine Go.exit ?_
        refine Unw.seqx ?_
        refine Unw.nil ?_
        cases h
        exact ⟨rfl, (fin_of rfl rF245 rfl (by kernel_rfl))⟩
    · rintro ⟨e, st⟩ hp
      obtain ⟨r2, rfl⟩ : ∃ y, y = o := ⟨o, rfl⟩
      obtain ⟨he, hfin⟩ := hp
      obtain rfl : e = .exit 2 := he
      cases h
      refine Unw.blkx ?_
      exact Unw.nil (Fin_end hfin)
theorem L_slices_SortStableFunc_int64_int64_178 {x_0 : (List Int)} {fc1_0_0 : (List S_Bond)} {r : (List Int)} (h : slices_SortStableFunc_int64_int64 x_0 (fun b0 b1 => impl_LongestFirst_c1 b0 b1 fc1_0_0) = some r) : FL Try.prog cfg 177 [.ow 1 (List.map eI x_0), .im 2 false [.clo 178 [.cp [.row 4 (List.map e_S_Bond fc1_0_0)] 0]]] = some ([], [.ow 1 (List.map eI r)]) := by
  unfold slices_SortStableFunc_int64_int64 at h
  refine FL_goS (A := [(0, .v false [.own 0 0 0]), (1, .v false [.im 2 (.clo 178 [.cp [.row 4 (List.map e_S_Bond fc1_0_0)] 0])])]) (B := [(0, some ⟨0, 0, true, false, false, false, [⟨.sh, 0, 0, .row 1 (List.map eI x_0)⟩]⟩), (1, none)]) (nt := 9) rfl rfl Try.func177 rfl rfl rfl rfl ?_
  obtain ⟨x8, hx8, h⟩ := bs h
  refine Go.r0 c177 rfl rfl (sq z177 (oMv rfl rfl) <| sq z177 (oMv rfl rfl) <| sq z177 (oLnO rfl rfl uF27 rfl rfl rfl (fun e => nomatch e)) <| sq z177 (oMv rfl rfl) <| sq z177 (oCa (xs := [.v false [.own 0 0 0], .v false [.im 0 _], .v false [.im 2 _]]) (vs := []) (v := .tup []) (L_slices_stableCmpFunc_int64_178 hx8) (.inl rfl) rfl kF245_27_3_273 rfl (ppC rfl (ppC rfl (ppC rfl pp0))) rfl rfl (pbO rfl rfl rfl rfl pb0) rfl rfl rfl) <| nl) ?_
  refine Unw.nil ?_
  cases h
  exact Fin_end (fin_of rfl rF177 rfl (by kernel_rfl))
theorem L_impl_glueAll {list_0 : (List S_Bond)} {order_1 : (List Int)} {presses_2 : Int} {r : ((List S_glued) × Int)} (h : impl_glueAll list_0 order_1 presses_2 = some r) : FL Try.prog cfg 179 [.im 2 false [.row 4 (List.map e_S_Bond list_0)], .im 2 false [.row 1 (List.map eI order_1)], .im 2 false [.sc (.int .i64 presses_2)]] = some ([(false, [.ow 0 4 (List.map e_S_glued r.1)]), (false, [.im 0 (.sc (.int .i64 r.2))])], []) := by
  unfold impl_glueAll at h
  refine FL_goS (A := [(0, .v false [.im 2 (.row 4 (List.map e_S_Bond list_0))]), (1, .v false [.im 2 (.row 1 (List.map eI order_1))]), (2, .v false [.im 2 (.sc (.int .i64 presses_2))])]) (B := [(0, none), (1, none), (2, none)]) (nt := 35) rfl rfl Try.func179 rfl rfl rfl rfl ?_
  refine Go.seq ?_
  refine Go.r0 c179 rfl rfl (sq z179 (oAsN rfl rfl eF274) <| sq z179 (oAsI rfl rfl) <| nl) ?_
  refine Unw.seq ?_
  refine Go.seq ?_
  obtain ⟨x15, hx15, h⟩ := bs h
  refine Go.dr c179 rfl rfl rfl rfl (mk [(0, .v false [.im 2 (.row 4 (List.map e_S_Bond list_0))]), (1, .v false [.im 2 (.row 1 (List.map eI order_1))]), (2, iv presses_2), (8, .v false [.mp 8 0 0]), (9, .v false [.own 9 0 0])] [(8, some ⟨0, 0, false, true, false, true, [⟨.imm, 0, 0, .sc (.int .i64 0)⟩, ⟨.imm, 0, 0, .sc (.int .i64 0)⟩, ⟨.imm, 0, 0, .sc (.int .i64 0)⟩, ⟨.imm, 0, 0, .sc (.int .i64 0)⟩, ⟨.imm, 0, 0, .sc (.int .i64 0)⟩, ⟨.imm, 0, 0, .sc (.int .i64 0)⟩]⟩), (9, some ⟨0, 0, false, false, false, false, [⟨.sh, 0, 0, .row 4 (List.map e_S_glued x15)⟩]⟩)]) (sT rfl (dN z179 rfl (oMv rfl rfl)) <| sT rfl (dN z179 rfl (oLnI rfl rfl uF81 rfl)) <| sF (dN z179 rfl (oBu (cs := [.im 0 _, .im 0 _, .im 0 _, .im 0 _, .im 0 _, .im 0 _]) rfl bF218 rfl)) trivial (sF (dN z179 rfl (oMk (en := e_S_glued) rfl hx15 rfl sF274 rfl rfl (fxI (fxI (fxI (fxI fx0)))) rfl (flat0 (L := [_]) rfl fun _ => rfl))) trivial (sS (dN z179 rfl (oAl rfl tF218 (tkI (tkI (tkI (tkI (tkI (tkI tk0)))))))) trivial (sS (dN z179 rfl (oSt tF218 rfl rfl rfl (tkI (tkI (tkI (tkI (tkI (tkI tk0)))))) rfl rfl rfl)) trivial (sS (dN z179 rfl (oAsO rfl rfl rfl rfl rfl)) trivial (sD (by kernel_rfl))))) (sS (dN z179 rfl (oAl rfl tF218 (tkI (tkI (tkI (tkI (tkI (tkI tk0)))))))) trivial (sF (dN z179 rfl (oMk (en := e_S_glued) rfl hx15 rfl sF274 rfl rfl (fxI (fxI (fxI (fxI fx0)))) rfl (flat0 (L := [_]) rfl fun _ => rfl))) trivial (sS (dN z179 rfl (oSt tF218 rfl rfl rfl (tkI (tkI (tkI (tkI (tkI (tkI tk0)))))) rfl rfl rfl)) trivial (sS (dN z179 rfl (oAsO rfl rfl rfl rfl rfl)) trivial (sD (by kernel_rfl)))) (sS (dN z179 rfl (oSt tF218 rfl rfl rfl (tkI (tkI (tkI (tkI (tkI (tkI tk0)))))) rfl rfl rfl)) trivial (sS (dN z179 rfl (oMk (en := e_S_glued) rfl hx15 rfl sF274 rfl rfl (fxI (fxI (fxI (fxI fx0)))) rfl (flat0 (L := [_]) rfl fun _ => rfl))) trivial (sS (dN z179 rfl (oAsO rfl rfl rfl rfl rfl)) trivial (sD (by kernel_rfl)))))))) (sF (dN z179 rfl (oMk (en := e_S_glued) rfl hx15 rfl sF274 rfl rfl (fxI (fxI (fxI (fxI fx0)))) rfl (flat0 (L := [_]) rfl fun _ => rfl))) trivial (sF (dN z179 rfl (oBu (cs := [.im 0 _, .im 0 _, .im 0 _, .im 0 _, .im 0 _, .im 0 _]) rfl bF218 rfl)) trivial (sS (dN z179 rfl (oAl rfl tF218 (tkI (tkI (tkI (tkI (tkI (tkI tk0)))))))) trivial (sS (dN z179 rfl (oSt tF218 rfl rfl rfl (tkI (tkI (tkI (tkI (tkI (tkI tk0)))))) rfl rfl rfl)) trivial (sS (dN z179 rfl (oAsO rfl rfl rfl rfl rfl)) trivial (sD (by kernel_rfl))))) (sS (dN z179 rfl (oAl rfl tF218 (tkI (tkI (tkI (tkI (tkI (tkI tk0)))))))) trivial (sS (dN z179 rfl (oBu (cs := [.im 0 _, .im 0 _, .im 0 _, .im 0 _, .im 0 _, .im 0 _]) rfl bF218 rfl)) trivial (sS (dN z179 rfl (oSt tF218 rfl rfl rfl (tkI (tkI (tkI (tkI (tkI (tkI tk0)))))) rfl rfl rfl)) trivial (sS (dN z179 rfl (oAsO rfl rfl rfl rfl rfl)) trivial (sD (by kernel_rfl))))))) (sS (dN z179 rfl (oAl rfl tF218 (tkI (tkI (tkI (tkI (tkI (tkI tk0)))))))) trivial (sF (dN z179 rfl (oBu (cs := [.im 0 _, .im 0 _, .im 0 _, .im 0 _, .im 0 _, .im 0 _]) rfl bF218 rfl)) trivial (sF (dN z179 rfl (oMk (en := e_S_glued) rfl hx15 rfl sF274 rfl rfl (fxI (fxI (fxI (fxI fx0)))) rfl (flat0 (L := [_]) rfl fun _ => rfl))) trivial (sS (dN z179 rfl (oSt tF218 rfl rfl rfl (tkI (tkI (tkI (tkI (tkI (tkI tk0)))))) rfl rfl rfl)) trivial (sS (dN z179 rfl (oAsO rfl rfl rfl rfl rfl)) trivial (sD (by kernel_rfl)))) (sS (dN z179 rfl (oSt tF218 rfl rfl rfl (tkI (tkI (tkI (tkI (tkI (tkI tk0)))))) rfl rfl rfl)) trivial (sS (dN z179 rfl (oMk (en := e_S_glued) rfl hx15 rfl sF274 rfl rfl (fxI (fxI (fxI (fxI fx0)))) rfl (flat0 (L := [_]) rfl fun _ => rfl))) trivial (sS (dN z179 rfl (oAsO rfl rfl rfl rfl rfl)) trivial (sD (by kernel_rfl)))))) (sS (dN z179 rfl (oMk (en := e_S_glued) rfl hx15 rfl sF274 rfl rfl (fxI (fxI (fxI (fxI fx0)))) rfl (flat0 (L := [_]) rfl fun _ => rfl))) trivial (sS (dN z179 rfl (oBu (cs := [.im 0 _, .im 0 _, .im 0 _, .im 0 _, .im 0 _, .im 0 _]) rfl bF218 rfl)) trivial (sS (dN z179 rfl (oSt tF218 rfl rfl rfl (tkI (tkI (tkI (tkI (tkI (tkI tk0)))))) rfl rfl rfl)) trivial (sS (dN z179 rfl (oAsO rfl rfl rfl rfl rfl)) trivial (sD (by kernel_rfl)))))))))) ?_
  refine Unw.seq ?_
  refine Go.seq ?_
  refine Go.seq ?_
  refine Go.r0 c179 rfl rfl (sq z179 (oMv rfl rfl) <| sq z179 (oLnI rfl rfl uF27 rfl) <| sq z179 (oMv rfl rfl) <| nl) ?_
  refine Unw.seq ?_
  refine Go.block ?_
  obtain ⟨o, hl, h⟩ := bs h
  refine Go.lp c179 rfl _ (fun (s : (Int × Int × Int × Int × Int × Int × Int × (List S_glued))) => match s with | (t_18_l3, g_o8_0_l3, g_o8_1_l3, g_o8_2_l3, g_o8_3_l3, g_o8_4_l3, g_o8_5_l3, out_o9_l3) => mk [(0, .v false [.im 2 (.row 4 (List.map e_S_Bond list_0))]), (2, iv presses_2), (8, .v false [.mp 8 0 0]), (9, .v false [.own 9 0 0]), (16, .v false [.im 2 (.row 1 (List.map eI order_1))]), (17, iv (order_1.length : Int)), (18, iv t_18_l3)] [(8, some ⟨0, 0, false, true, false, true, [⟨.imm, 0, 0, .sc (.int .i64 g_o8_0_l3)⟩, ⟨.imm, 0, 0, .sc (.int .i64 g_o8_1_l3)⟩, ⟨.imm, 0, 0, .sc (.int .i64 g_o8_2_l3)⟩, ⟨.imm, 0, 0, .sc (.int .i64 g_o8_3_l3)⟩, ⟨.imm, 0, 0, .sc (.int .i64 g_o8_4_l3)⟩, ⟨.imm, 0, 0, .sc (.int .i64 g_o8_5_l3)⟩]⟩), (9, some ⟨0, 0, false, false, false, false, [⟨.sh, 0, 0, .row 4 (List.map e_S_glued out_o9_l3)⟩]⟩)]) (fun (o : (Int × Int × Int × Int × Int × Int × (List S_glued))) (p : Ex × St) => match o with | (g_o8_0_e0_3, g_o8_1_e0_3, g_o8_2_e0_3, g_o8_3_e0_3, g_o8_4_e0_3, g_o8_5_e0_3, out_o9_e0_3) => p.1 = .exit 0 ∧ p.2.norm ([8, 9], [8, 9]) = mk [(8, .v false [.mp 8 0 0]), (9, .v false [.own 9 0 0])] [(8, some ⟨0, 0, false, true, false, true, [⟨.imm, 0, 0, .sc (.int .i64 g_o8_0_e0_3)⟩, ⟨.imm, 0, 0, .sc (.int .i64 g_o8_1_e0_3)⟩, ⟨.imm, 0, 0, .sc (.int .i64 g_o8_2_e0_3)⟩, ⟨.imm, 0, 0, .sc (.int .i64 g_o8_3_e0_3)⟩, ⟨.imm, 0, 0, .sc (.int .i64 g_o8_4_e0_3)⟩, ⟨.imm, 0, 0, .sc (.int .i64 g_o8_5_e0_3)⟩]⟩), (9, some ⟨0, 0, false, false, false, false, [⟨.sh, 0, 0, .row 4 (List.map e_S_glued out_o9_e0_3)⟩]⟩)]) hl (by kernel_rfl) ?_ ?_ ?_
  · intro o p hp e
    obtain ⟨g_o8_0_e0_3, g_o8_1_e0_3, g_o8_2_e0_3, g_o8_3_e0_3, g_o8_4_e0_3, g_o8_5_e0_3, out_o9_e0_3⟩ := o
    exact nomatch (hp.1.symm.trans e)
  · rintro ⟨t_18_l3, g_o8_0_l3, g_o8_1_l3, g_o8_2_l3, g_o8_3_l3, g_o8_4_l3, g_o8_5_l3, out_o9_l3⟩ o h
    unfold impl_glueAll_l3 at h
    dsimp only at h
    refine Go.seq ?_
    refine Go.r0 c179 rfl rfl (sq z179 (oBi rfl rfl rfl rfl) <| nl) ?_
    refine Unw.seq ?_
    refine Go.seq ?_
    by_cases hc3 : t_18_l3 < (order_1.length : Int)
    · rw [if_pos hc3] at h
      refine Go.condT rfl (iDec.2 hc3) ?_
      refine Go.skip ?_
      refine Unw.seq ?_
      refine Go.seq ?_
      refine Go.block ?_
      refine Go.seq ?_
      obtain ⟨x20, hx20, h⟩ := bs h
      refine Go.r0 c179 rfl rfl (sq z179 (oIAI rfl hx20 sF27 rfl rfl) <| sq z179 (oLd (cs := [.im 2 _]) rfl tF2 rfl rfl) <| sq z179 (oAsI rfl rfl) <| nl) ?_
      refine Unw.seq ?_
      obtain ⟨x26, hx26, h⟩ := bs h
      obtain ⟨x29, hx29, h⟩ := bs h
      obtain ⟨x30, hx30, h⟩ := bs h
      refine Go.r0 c179 rfl rfl (sq z179 (oMv rfl rfl) <| sq z179 (oMv rfl rfl) <| sq z179 (oMv rfl rfl) <| sq z179 (oMv rfl rfl) <| sq z179 (oIAI rfl hx26 sF81 rfl rfl) <| sq z179 (oLd (cs := [.im 2 _, .im 2 _, .im 2 _, .im 2 _]) rfl tF209 rfl rfl) <| sq z179 (oMv rfl rfl) <| sq z179 (oCa (xs := [.v false [.mp 8 0 0], .v true [.im 2 _, .im 2 _, .im 2 _, .im 2 _], .v false [.im 0 _]]) (vs := [(true, [.im 0 _, .im 0 _, .im 0 _, .im 0 _])]) (v := .v true [.im 0 _, .im 0 _, .im 0 _, .im 0 _]) (L_impl_gluing_add hx29) (.inl rfl) rfl kF220_218_209_2 rfl (ppPx (ob' := ⟨0, 0, false, true, false, true, [⟨.imm, 0, 0, .sc (.int .i64 g_o8_0_l3)⟩, ⟨.imm, 0, 0, .sc (.int .i64 g_o8_1_l3)⟩, ⟨.imm, 0, 0, .sc (.int .i64 g_o8_2_l3)⟩, ⟨.imm, 0, 0, .sc (.int .i64 g_o8_3_l3)⟩, ⟨.imm, 0, 0, .sc (.int .i64 g_o8_4_l3)⟩, ⟨.imm, 0, 0, .sc (.int .i64 g_o8_5_l3)⟩]⟩) rfl rfl rfl (by kernel_rfl) (ppC rfl (ppC rfl pp0))) rfl rfl (pbPx (ob' := ⟨0, 1, false, true, false, true, [⟨.imm, 1, 0, .sc (.int .i64 x29.2.ready)⟩, ⟨.imm, 1, 0, .sc (.int .i64 x29.2.free.e0)⟩, ⟨.imm, 1, 0, .sc (.int .i64 x29.2.free.e1)⟩, ⟨.imm, 1, 0, .sc (.int .i64 x29.2.free.e2)⟩, ⟨.imm, 1, 0, .sc (.int .i64 x29.2.free.e3)⟩, ⟨.imm, 1, 0, .sc (.int .i64 x29.2.end_)⟩]⟩) rfl rfl (by kernel_rfl) pb0) rfl rfl rfl) <| sq z179 (oIAO rfl hx30 sF274 rfl rfl rfl rfl) <| sq z179 (oStE (v' := x29.1) tF279 rfl rfl rfl (fxI (fxI (fxI (fxI fx0)))) rfl rfl (rd_get hx30) rfl) <| nl) ?_
      refine Unw.blk ?_
      refine Unw.seq ?_
      refine Go.r1 c179 rfl rfl (st1 := mk [(0, .v false [.im 2 (.row 4 (List.map e_S_Bond list_0))]), (2, iv presses_2), (8, .v false [.mp 8 0 0]), (9, .v false [.own 9 0 0]), (16, .v false [.im 2 (.row 1 (List.map eI order_1))]), (17, iv (order_1.length : Int)), (18, iv t_18_l3)] [(8, some ⟨0, 0, false, true, false, true, [⟨.imm, 0, 0, .sc (.int .i64 x29.2.ready)⟩, ⟨.imm, 0, 0, .sc (.int .i64 x29.2.free.e0)⟩, ⟨.imm, 0, 0, .sc (.int .i64 x29.2.free.e1)⟩, ⟨.imm, 0, 0, .sc (.int .i64 x29.2.free.e2)⟩, ⟨.imm, 0, 0, .sc (.int .i64 x29.2.free.e3)⟩, ⟨.imm, 0, 0, .sc (.int .i64 x29.2.end_)⟩]⟩), (9, some ⟨0, 0, false, false, false, false, [⟨.sh, 0, 0, .row 4 (List.map e_S_glued (out_o9_l3.set x20.toNat x29.1))⟩]⟩)]) (by kernel_rfl) (sq z179 (oBi rfl rfl rfl rfl) <| sq z179 (oMv rfl rfl) <| nl) ?_
      refine Unw.nil ?_
      cases h
      exact ⟨rfl, (by kernel_rfl)⟩
    · rw [if_neg hc3] at h
      refine Go.condF rfl (byF iDec hc3) ?_
      refine Go.exit ?_
      refine Unw.seqx ?_
      refine Unw.nil ?_
      cases h
      exact ⟨rfl, (by kernel_rfl)⟩
  · rintro ⟨e, st⟩ hp
    obtain ⟨g_o8_0_e0_3, g_o8_1_e0_3, g_o8_2_e0_3, g_o8_3_e0_3, g_o8_4_e0_3, g_o8_5_e0_3, out_o9_e0_3⟩ := o
    dsimp only at h
    obtain ⟨he, hst⟩ := hp
    obtain rfl : e = .exit 0 := he
    refine Unw.blkx ?_
    refine Unw.seq ?_
    refine Go.seq ?_
    refine Go.dr c179 rfl rfl rfl hst (mk [(6, .v false [.own 6 0 0]), (7, iv g_o8_5_e0_3)] [(6, some ⟨0, 0, false, false, false, false, [⟨.sh, 0, 0, .row 4 (List.map e_S_glued out_o9_e0_3)⟩]⟩)]) (sT rfl (dN z179 rfl (oMv rfl rfl)) <| sK (O := [8]) rfl rfl rfl (dN z179 rfl (oFA (r' := .mp 8 0 5) rfl fF218_2 rfl rfl)) <| sK (O := [8]) rfl rfl rfl (dN z179 rfl (oLd (cs := [.im 0 _]) rfl tF2 rfl rfl)) <| sS (dN z179 rfl (oAsO rfl rfl rfl rfl rfl)) (kY ⟨rfl, trivial⟩ (kY ⟨rfl, trivial⟩ trivial)) (sS (dN z179 rfl (oAsI rfl rfl)) (kN rfl (kN rfl trivial)) (sD (by kernel_rfl)))) ?_
    refine Unw.seq ?_
    refine Go.ret (Unw.ret ?_)
    cases h
    exact Fin_ret (fin_of rfl rF179 rfl (by kernel_rfl))
theorem L_impl_LongestFirst {list_0 : (List S_Bond)} {presses_1 : Int} {r : ((List Int) × Int × Int)} (h : impl_LongestFirst list_0 presses_1 = some r) : FL Try.prog cfg 80 [.im 2 false [.row 4 (List.map e_S_Bond list_0)], .im 2 false [.sc (.int .i64 presses_1)]] = some ([(false, [.ow 0 1 (List.map eI r.1)]), (false, [.im 0 (.sc (.int .i64 r.2.1))]), (false, [.im 0 (.sc (.int .i64 r.2.2))])], []) := by
  unfold impl_LongestFirst at h
  refine FL_goS (A := [(0, .v false [.im 2 (.row 4 (List.map e_S_Bond list_0))]), (1, .v false [.im 2 (.sc (.int .i64 presses_1))])]) (B := [(0, none), (1, none)]) (nt := 41) rfl rfl Try.func80 rfl rfl rfl rfl ?_
  refine Go.seq ?_
  refine Go.r0 c80 rfl rfl (sq z80 (oBx rfl tF81 rfl (tkI tk0)) <| sq z80 (oAsN rfl rfl eF27) <| sq z80 (oAsI rfl rfl) <| sq z80 (oAsI rfl rfl) <| nl) ?_
  refine Unw.seq ?_
  refine Go.seq ?_
  refine Go.seq ?_
  obtain ⟨x14, hx14, h⟩ := bs h
  refine Go.r0 c80 rfl rfl (sq z80 (oLd (cs := [.im 2 _]) rfl tF81 rfl rfl) <| sq z80 (oMv rfl rfl) <| sq z80 (oCa (xs := [.v false [.im 2 _], .v false [.im 2 _]]) (vs := [(false, [.im 0 _])]) (v := .v false [.im 0 _]) (L_impl_pressCode hx14) (.inl rfl) rfl kF137_81_2 rfl (ppC rfl (ppC rfl pp0)) rfl rfl pb0 rfl rfl rfl) <| sq z80 (oAsI rfl rfl) <| nl) ?_
  refine Unw.seq ?_
  refine Go.seq ?_
  refine Go.r0 c80 rfl rfl (sq z80 (oMv rfl rfl) <| sq z80 (oBi rfl rfl rfl rfl) <| nl) ?_
  refine Unw.seq ?_
  by_cases hc1 : x14 ≠ 0
  · rw [if_pos hc1] at h
    refine Go.condT rfl (iNe.2 hc1) ?_
    refine Go.seq ?_
    refine Go.r0 c80 rfl rfl (sq z80 (oMv rfl rfl) <| sq z80 (oAsN rfl rfl eF27) <| sq z80 (oAsI rfl rfl) <| sq z80 (oAsI rfl rfl) <| nl) ?_
    refine Unw.seq ?_
    refine Go.ret (Unw.ret ?_)
    cases h
    exact Fin_ret (fin_of rfl rF80 rfl (by kernel_rfl))
  · rw [if_neg hc1] at h
    refine Go.condF rfl (byF iNe hc1) ?_
    refine Go.skip ?_
    refine Unw.seq ?_
    refine Go.seq ?_
    refine Go.r0 c80 rfl rfl (sq z80 (oBS (es := List.map eI ([] : List Int)) rfl sF27 rfl pt0 (flat0 rfl fun _ => rfl)) <| sq z80 (oAsO rfl rfl rfl rfl rfl) <| nl) ?_
    refine Unw.seq ?_
    refine Go.seq ?_
    refine Go.seq ?_
    refine Go.r0 c80 rfl rfl (sq z80 (oLd (cs := [.im 2 _]) rfl tF81 rfl rfl) <| sq z80 (oLnI rfl rfl uF81 rfl) <| sq z80 (oMv rfl rfl) <| nl) ?_
    refine Unw.seq ?_
    refine Go.block ?_
    obtain ⟨o, hl, h⟩ := bs h
    refine Go.lp c80 rfl _ (fun (s : (Int × (List Int))) => match s with | (t_21_l6, order_o8_l6) => mk [(1, iv presses_1), (2, .v false [.mp 2 0 0]), (8, .v false [.own 8 0 0]), (20, iv (list_0.length : Int)), (21, iv t_21_l6)] [(2, some ⟨0, 0, false, true, false, false, [⟨.imm, 0, 2, .row 4 (List.map e_S_Bond list_0)⟩]⟩), (8, some ⟨0, 0, false, false, false, false, [⟨.sh, 0, 0, .row 1 (List.map eI order_o8_l6)⟩]⟩)]) (fun (order_o8_e0_6 : (List Int)) (p : Ex × St) => p.1 = .exit 0 ∧ p.2.norm ([1, 2, 8], [2, 8]) = mk [(1, iv presses_1), (2, .v false [.mp 2 0 0]), (8, .v false [.own 8 0 0])] [(2, some ⟨0, 0, false, true, false, false, [⟨.imm, 0, 2, .row 4 (List.map e_S_Bond list_0)⟩]⟩), (8, some ⟨0, 0, false, false, false, false, [⟨.sh, 0, 0, .row 1 (List.map eI order_o8_e0_6)⟩]⟩)]) hl (by kernel_rfl) ?_ ?_ ?_
    · intro o p hp e
      exact nomatch (hp.1.symm.trans e)
    · rintro ⟨t_21_l6, order_o8_l6⟩ o h
      unfold impl_LongestFirst_l6 at h
      dsimp only at h
      refine Go.seq ?_
      refine Go.r0 c80 rfl rfl (sq z80 (oBi rfl rfl rfl rfl) <| nl) ?_
      refine Unw.seq ?_
      refine Go.seq ?_
      by_cases hc4 : t_21_l6 < (list_0.length : Int)
      · rw [if_pos hc4] at h
        refine Go.condT rfl (iDec.2 hc4) ?_
        refine Go.skip ?_
        refine Unw.seq ?_
        refine Go.seq ?_
        refine Go.block ?_
        refine Go.seq ?_
        refine Go.r0 c80 rfl rfl (sq z80 (oMv rfl rfl) <| sq z80 (oAsI rfl rfl) <| nl) ?_
        refine Unw.seq ?_
        obtain ⟨x27, hx27, h⟩ := bs h
        refine Go.r0 c80 rfl rfl (sq z80 (oMv rfl rfl) <| sq z80 (oMv rfl rfl) <| sq z80 (oBS (es := List.map eI ([t_21_l6] : List Int)) rfl sF27 rfl (ptC rfl (fxI fx0) rfl pt0) (flat0 rfl fun _ => rfl)) <| sq z80 (oApO (en := eI) (M := ([t_21_l6] : List Int)) rfl hx27 rfl sF27 rfl rfl uF27 (.inl ⟨_, rfl⟩) rfl rfl rfl rfl (el_own rfl rfl) (flat0 rfl fun _ => rfl)) <| sq z80 (oAsO rfl rfl rfl rfl rfl) <| nl) ?_
        refine Unw.blk ?_
        refine Unw.seq ?_
        refine Go.r0 c80 rfl rfl (sq z80 (oBi rfl rfl rfl rfl) <| sq z80 (oMv rfl rfl) <| nl) ?_
        refine Unw.nil ?_
        cases h
        exact ⟨rfl, (by kernel_rfl)⟩
      · rw [if_neg hc4] at h
        refine Go.condF rfl (byF iDec hc4) ?_
        refine Go.exit ?_
        refine Unw.seqx ?_
        refine Unw.nil ?_
        cases h
        exact ⟨rfl, (by kernel_rfl)⟩
    · rintro ⟨e, st⟩ hp
      obtain ⟨order_o8_e0_6, rfl⟩ : ∃ y, y = o := ⟨o, rfl⟩
      obtain ⟨he, hst⟩ := hp
      obtain rfl : e = .exit 0 := he
      refine Unw.blkx ?_
      refine Unw.seq ?_
      refine Go.seq ?_
      obtain ⟨x31, hx31, h⟩ := bs h
      refine Go.r1 c80 rfl rfl hst (sq z80 (oMv rfl rfl) <| sq z80 (oMF (rs := [.mp 2 0 0]) rfl rfl) <| sq z80 (oCa (xs := [.v false [.own 8 0 0], .fn 178 [.mp 2 0 0]]) (vs := []) (v := .tup []) (L_slices_SortStableFunc_int64_int64_178 hx31) (.inl rfl) rfl kF177_27_273 rfl (ppC rfl (ppC rfl pp0)) rfl rfl (pbO rfl rfl rfl rfl pb0) rfl rfl rfl) <| nl) ?_
      refine Unw.seq ?_
      refine Go.seq ?_
      obtain ⟨x36, hx36, h⟩ := bs h
      refine Go.r1 c80 rfl rfl (st1 := mk [(1, iv presses_1), (2, .v false [.mp 2 0 0]), (8, .v false [.own 8 0 0])] [(2, some ⟨0, 0, false, true, false, false, [⟨.imm, 0, 2, .row 4 (List.map e_S_Bond list_0)⟩]⟩), (8, some ⟨0, 0, false, false, false, false, [⟨.sh, 0, 0, .row 1 (List.map eI x31)⟩]⟩)]) (by kernel_rfl) (sq z80 (oLd (cs := [.im 2 _]) rfl tF81 rfl rfl) <| sq z80 (oMv rfl rfl) <| sq z80 (oMv rfl rfl) <| sq z80 (oCr (xs := [.v false [.im 2 _], .v false [.own 8 0 0], .v false [.im 0 _]]) (vs := [(false, [.own 36 0 0]), (false, [.im 0 _])]) (v := .tup [(false, [.own 36 0 0]), (false, [.im 0 _])]) (c := ⟨.sh, 0, _⟩) (cs := []) (L_impl_glueAll hx36) (.inl rfl) rfl kF179_81_27_2 rfl (ppC rfl (ppC rfl (ppC rfl pp0))) rfl rfl pb0 rfl rfl rfl) <| sq z80 (oMvT rfl rfl) <| sq z80 (oEx rfl rfl rfl) <| sq z80 (oEx rfl rfl rfl) <| sq z80 (oAsO rfl rfl rfl rfl rfl) <| sq z80 (oAsI rfl rfl) <| nl) ?_
      refine Unw.seq ?_
      refine Go.seq ?_
      refine Go.r0 c80 rfl rfl (sq z80 (oMv rfl rfl) <| sq z80 (oMv rfl rfl) <| sq z80 (oAsO rfl rfl rfl rfl rfl) <| sq z80 (oAsI rfl rfl) <| sq z80 (oAsI rfl rfl) <| nl) ?_
      refine Unw.seq ?_
      refine Go.ret (Unw.ret ?_)
      cases h
      exact Fin_ret (fin_of rfl rF80 rfl (by kernel_rfl))
theorem L_impl_isOrder {order_0 : (List Int)} {n_1 : Int} {r : Bool} (h : impl_isOrder order_0 n_1 = some r) : FL Try.prog cfg 246 [.im 2 false [.row 1 (List.map eI order_0)], .im 2 false [.sc (.int .i64 n_1)]] = some ([(false, [.im 0 (.sc (.bool r))])], []) := by
  unfold impl_isOrder at h
  refine FL_goS (A := [(0, .v false [.im 2 (.row 1 (List.map eI order_0))]), (1, .v false [.im 2 (.sc (.int .i64 n_1))])]) (B := [(0, none), (1, none)]) (nt := 35) rfl rfl Try.func246 rfl rfl rfl rfl ?_
  refine Go.seq ?_
  refine Go.r0 c246 rfl rfl (sq z246 (oAsI rfl rfl) <| nl) ?_
  refine Unw.seq ?_
  refine Go.seq ?_
  refine Go.seq ?_
  refine Go.r0 c246 rfl rfl (sq z246 (oMv rfl rfl) <| sq z246 (oLnI rfl rfl uF27 rfl) <| sq z246 (oMv rfl rfl) <| sq z246 (oBi rfl rfl rfl rfl) <| nl) ?_
  refine Unw.seq ?_
  by_cases hc1 : (order_0.length : Int) ≠ n_1
  · rw [if_pos hc1] at h
    refine Go.condT rfl (iNe.2 hc1) ?_
    refine Go.seq ?_
    refine Go.r0 c246 rfl rfl (sq z246 (oAsI rfl rfl) <| nl) ?_
    refine Unw.seq ?_
    refine Go.ret (Unw.ret ?_)
    cases h
    exact Fin_ret (fin_of rfl rF246 rfl (by kernel_rfl))
  · rw [if_neg hc1] at h
    refine Go.condF rfl (byF iNe hc1) ?_
    refine Go.skip ?_
    refine Unw.seq ?_
    refine Go.seq ?_
    obtain ⟨x13, hx13, h⟩ := bs h
    refine Go.r0 c246 rfl rfl (sq z246 (oMv rfl rfl) <| sq z246 (oMk (en := eB) rfl hx13 rfl sF363 rfl rfl (fxI fx0) rfl (flat0 (L := [_]) rfl fun _ => rfl)) <| sq z246 (oAsO rfl rfl rfl rfl rfl) <| nl) ?_
    refine Unw.seq ?_
    refine Go.seq ?_
    refine Go.seq ?_
    refine Go.r0 c246 rfl rfl (sq z246 (oMv rfl rfl) <| sq z246 (oLnI rfl rfl uF27 rfl) <| sq z246 (oMv rfl rfl) <| nl) ?_
    refine Unw.seq ?_
    refine Go.block ?_
    obtain ⟨o, hl, h⟩ := bs h
    refine Go.lp c246 rfl _ (fun (s : (Int × (List Bool))) => match s with | (t_16_l5, met_o5_l5) => mk [(1, iv n_1), (5, .v false [.own 5 0 0]), (14, .v false [.im 2 (.row 1 (List.map eI order_0))]), (15, iv (order_0.length : Int)), (16, iv t_16_l5)] [(5, some ⟨0, 0, false, false, false, false, [⟨.sh, 0, 0, .row 1 (List.map eB met_o5_l5)⟩]⟩)]) (fun (o : (Unit ⊕ Bool)) (p : Ex × St) => match o with | (.inl _) => p.1 = .exit 0 ∧ p.2.norm ([], []) = mk [] [] | (.inr r2) => p.1 = .ret ∧ fin Try.prog cfg 246 Try.f246 [.im 2 false [.row 1 (List.map eI order_0)], .im 2 false [.sc (.int .i64 n_1)]] p.2 = some ([(false, [.im 0 (.sc (.bool r2))])], [])) hl (by kernel_rfl) ?_ ?_ ?_
    · intro o p hp e
      rcases o with u | r2 <;> exact nomatch (hp.1.symm.trans e)
    · rintro ⟨t_16_l5, met_o5_l5⟩ o h
      unfold impl_isOrder_l5 at h
      dsimp only at h
      refine Go.seq ?_
      refine Go.r0 c246 rfl rfl (sq z246 (oBi rfl rfl rfl rfl) <| nl) ?_
      refine Unw.seq ?_
      refine Go.seq ?_
      by_cases hc10 : t_16_l5 < (order_0.length : Int)
      · rw [if_pos hc10] at h
        refine Go.condT rfl (iDec.2 hc10) ?_
        refine Go.skip ?_
        refine Unw.seq ?_
        refine Go.seq ?_
        refine Go.block ?_
        refine Go.seq ?_
        obtain ⟨x18, hx18, h⟩ := bs h
        refine Go.r0 c246 rfl rfl (sq z246 (oIAI rfl hx18 sF27 rfl rfl) <| sq z246 (oLd (cs := [.im 2 _]) rfl tF2 rfl rfl) <| sq z246 (oAsI rfl rfl) <| nl) ?_
        refine Unw.seq ?_
        refine Go.seq ?_
        refine Go.seq ?_
        obtain ⟨x23, hx23, h⟩ := bs h
        obtain ⟨t_30_m7, hm13, h⟩ := bs h
        refine Go.rX c246 rfl rfl rfl (mk [(1, iv n_1), (5, .v false [.own 5 0 0]), (7, iv x18), (14, .v false [.im 2 (.row 1 (List.map eI order_0))]), (15, iv (order_0.length : Int)), (16, iv t_16_l5), (30, bv t_30_m7)] [(5, some ⟨0, 0, false, false, false, false, [⟨.sh, 0, 0, .row 1 (List.map eB met_o5_l5)⟩]⟩)]) ?_ ?_
        · by_cases hc11 : x23 = true
          · rw [if_pos hc11] at hm13
            obtain ⟨x28, hx28, hm13⟩ := bs hm13
            cases hm13
            exact ⟨_, sq z246 (oMv rfl rfl) <| sq z246 (oMv rfl rfl) <| sq z246 (oBi rfl rfl rfl rfl) <| sq z246 (oCa (xs := [.v false [.im 2 _], .v false [.im 0 _], .v false [.im 0 _]]) (vs := [(false, [.im 0 _])]) (v := .v false [.im 0 _]) (L_impl_within hx23) (.inl rfl) rfl kF92_2_2_2 rfl (ppC rfl (ppC rfl (ppC rfl pp0))) rfl rfl pb0 rfl rfl rfl) <| sq z246 (oUn rfl rfl rfl) <| sq z246 (oMv rfl rfl) <| sgT z246 rfl rfl (nF (Iff.rfl.2 hc11)) (oMv rfl rfl) <| sgT z246 rfl rfl (nF (Iff.rfl.2 hc11)) (oMv rfl rfl) <| sgT z246 rfl rfl (nF (Iff.rfl.2 hc11)) (oIAO rfl hx28 sF363 rfl rfl rfl rfl) <| sgT z246 rfl rfl (nF (Iff.rfl.2 hc11)) (oLdE (cs := [.im 0 _]) rfl tF4 rfl rfl rfl (fun e => nomatch e) (rd_get hx28) rfl rfl) <| sq z246 (oPkF rfl rfl (nF (Iff.rfl.2 hc11)) rfl) <| nl, (by kernel_rfl)⟩
          · rw [if_neg hc11] at hm13
            cases hm13
            exact ⟨_, sq z246 (oMv rfl rfl) <| sq z246 (oMv rfl rfl) <| sq z246 (oBi rfl rfl rfl rfl) <| sq z246 (oCa (xs := [.v false [.im 2 _], .v false [.im 0 _], .v false [.im 0 _]]) (vs := [(false, [.im 0 _])]) (v := .v false [.im 0 _]) (L_impl_within hx23) (.inl rfl) rfl kF92_2_2_2 rfl (ppC rfl (ppC rfl (ppC rfl pp0))) rfl rfl pb0 rfl rfl rfl) <| sq z246 (oUn rfl rfl rfl) <| sq z246 (oMv rfl rfl) <| sgF rfl rfl (nT (byF Iff.rfl hc11)) rfl <| sgF rfl rfl (nT (byF Iff.rfl hc11)) rfl <| sgF rfl rfl (nT (byF Iff.rfl hc11)) rfl <| sgF rfl rfl (nT (byF Iff.rfl hc11)) rfl <| sq z246 (oPkT rfl rfl (nT (byF Iff.rfl hc11)) rfl) <| nl, (by kernel_rfl)⟩
        · refine Unw.seq ?_
          by_cases hc12 : t_30_m7 = true
          · rw [if_pos hc12] at h
            refine Go.condT rfl (Iff.rfl.2 hc12) ?_
            refine Go.seq ?_
            refine Go.r0 c246 rfl rfl (sq z246 (oAsI rfl rfl) <| nl) ?_
            refine Unw.seq ?_
            refine Go.ret (Unw.ret ?_)
            cases h
            exact ⟨rfl, (fin_of rfl rF246 rfl (by kernel_rfl))⟩
          · rw [if_neg hc12] at h
            refine Go.condF rfl (byF Iff.rfl hc12) ?_
            refine Go.skip ?_
            refine Unw.seq ?_
            obtain ⟨x33, hx33, h⟩ := bs h
            refine Go.r0 c246 rfl rfl (sq z246 (oMv rfl rfl) <| sq z246 (oMv rfl rfl) <| sq z246 (oIAO rfl hx33 sF363 rfl rfl rfl rfl) <| sq z246 (oStE (v' := true) tF4 rfl rfl rfl (fxI fx0) rfl rfl (rd_get hx33) rfl) <| nl) ?_
            refine Unw.blk ?_
            refine Unw.seq ?_
            refine Go.r1 c246 rfl rfl (st1 := mk [(1, iv n_1), (5, .v false [.own 5 0 0]), (14, .v false [.im 2 (.row 1 (List.map eI order_0))]), (15, iv (order_0.length : Int)), (16, iv t_16_l5)] [(5, some ⟨0, 0, false, false, false, false, [⟨.sh, 0, 0, .row 1 (List.map eB (met_o5_l5.set x18.toNat true))⟩]⟩)]) (by kernel_rfl) (sq z246 (oBi rfl rfl rfl rfl) <| sq z246 (oMv rfl rfl) <| nl) ?_
            refine Unw.nil ?_
            cases h
            exact ⟨rfl, (by kernel_rfl)⟩
      · rw [if_neg hc10] at h
        refine Go.condF rfl (byF iDec hc10) ?_
        refine Go.exit ?_
        refine Unw.seqx ?_
        refine Unw.nil ?_
        cases h
        exact ⟨rfl, (by kernel_rfl)⟩
    · rintro ⟨e, st⟩ hp
      rcases o with u | r2
      · dsimp only at h
        obtain ⟨he, hst⟩ := hp
        obtain rfl : e = .exit 0 := he
        refine Unw.blkx ?_
        refine Unw.seq ?_
        refine Go.seq ?_
        refine Go.r1 c246 rfl rfl hst (sq z246 (oAsI rfl rfl) <| nl) ?_
        refine Unw.seq ?_
        refine Go.ret (Unw.ret ?_)
        cases h
        exact Fin_ret (fin_of rfl rF246 rfl (by kernel_rfl))
      · dsimp only at h
        obtain ⟨he, hfin⟩ := hp
        obtain rfl : e = .ret := he
        cases h
        exact Unw.ret (Fin_ret hfin)
theorem L_impl_glueCode {list_0 : (List S_Bond)} {order_1 : (List Int)} {presses_2 : Int} {r : Int} (h : impl_glueCode list_0 order_1 presses_2 = some r) : FL Try.prog cfg 180 [.im 2 false [.row 4 (List.map e_S_Bond list_0)], .im 2 false [.row 1 (List.map eI order_1)], .im 2 false [.sc (.int .i64 presses_2)]] = some ([(false, [.im 0 (.sc (.int .i64 r))])], []) := by
  unfold impl_glueCode at h
  refine FL_goS (A := [(0, .v false [.im 2 (.row 4 (List.map e_S_Bond list_0))]), (1, .v false [.im 2 (.row 1 (List.map eI order_1))]), (2, .v false [.im 2 (.sc (.int .i64 presses_2))])]) (B := [(0, none), (1, none), (2, none)]) (nt := 22) rfl rfl Try.func180 rfl rfl rfl rfl ?_
  refine Go.seq ?_
  refine Go.r0 c180 rfl rfl (sq z180 (oAsI rfl rfl) <| nl) ?_
  refine Unw.seq ?_
  refine Go.seq ?_
  refine Go.block ?_
  refine Go.seq ?_
  obtain ⟨x9, hx9, h⟩ := bs h
  refine Go.r0 c180 rfl rfl (sq z180 (oMv rfl rfl) <| sq z180 (oCa (xs := [.v false [.im 2 _]]) (vs := [(false, [.im 0 _])]) (v := .v false [.im 0 _]) (L_impl_ValidBonds hx9) (.inl rfl) rfl kF219_81 rfl (ppC rfl pp0) rfl rfl pb0 rfl rfl rfl) <| sq z180 (oUn rfl rfl rfl) <| sq z180 (oAsI rfl rfl) <| nl) ?_
  refine Unw.seq ?_
  by_cases hc1 : x9 = true
  · rw [if_pos hc1] at h
    refine Go.condF rfl (nF (Iff.rfl.2 hc1)) ?_
    refine Go.seq ?_
    obtain ⟨x13, hx13, h⟩ := bs h
    obtain ⟨t_11_m3, hm4, h⟩ := bs h
    refine Go.rX c180 rfl rfl rfl (mk [(11, bv t_11_m3)] []) ?_ ?_
    · by_cases hc2 : x13 = true
      · rw [if_pos hc2] at hm4
        obtain ⟨x19, hx19, hm4⟩ := bs hm4
        cases hm4
        exact ⟨_, sq z180 (oMv rfl rfl) <| sq z180 (oCa (xs := [.v false [.im 2 _], .v false [.im 0 _], .v false [.im 0 _]]) (vs := [(false, [.im 0 _])]) (v := .v false [.im 0 _]) (L_impl_within hx13) (.inl rfl) rfl kF92_2_2_2 rfl (ppC rfl (ppC rfl (ppC rfl pp0))) rfl rfl pb0 rfl rfl rfl) <| sq z180 (oUn rfl rfl rfl) <| sq z180 (oMv rfl rfl) <| sgT z180 rfl rfl (nF (Iff.rfl.2 hc2)) (oMv rfl rfl) <| sgT z180 rfl rfl (nF (Iff.rfl.2 hc2)) (oMv rfl rfl) <| sgT z180 rfl rfl (nF (Iff.rfl.2 hc2)) (oLnI rfl rfl uF81 rfl) <| sgT z180 rfl rfl (nF (Iff.rfl.2 hc2)) (oCa (xs := [.v false [.im 2 _], .v false [.im 0 _]]) (vs := [(false, [.im 0 _])]) (v := .v false [.im 0 _]) (L_impl_isOrder hx19) (.inl rfl) rfl kF246_27_3 rfl (ppC rfl (ppC rfl pp0)) rfl rfl pb0 rfl rfl rfl) <| sgT z180 rfl rfl (nF (Iff.rfl.2 hc2)) (oUn rfl rfl rfl) <| sq z180 (oPkF rfl rfl (nF (Iff.rfl.2 hc2)) rfl) <| sq z180 (oAsI rfl rfl) <| nl, (by kernel_rfl)⟩
      · rw [if_neg hc2] at hm4
        cases hm4
        exact ⟨_, sq z180 (oMv rfl rfl) <| sq z180 (oCa (xs := [.v false [.im 2 _], .v false [.im 0 _], .v false [.im 0 _]]) (vs := [(false, [.im 0 _])]) (v := .v false [.im 0 _]) (L_impl_within hx13) (.inl rfl) rfl kF92_2_2_2 rfl (ppC rfl (ppC rfl (ppC rfl pp0))) rfl rfl pb0 rfl rfl rfl) <| sq z180 (oUn rfl rfl rfl) <| sq z180 (oMv rfl rfl) <| sgF rfl rfl (nT (byF Iff.rfl hc2)) rfl <| sgF rfl rfl (nT (byF Iff.rfl hc2)) rfl <| sgF rfl rfl (nT (byF Iff.rfl hc2)) rfl <| sgF rfl rfl (nT (byF Iff.rfl hc2)) rfl <| sgF rfl rfl (nT (byF Iff.rfl hc2)) rfl <| sq z180 (oPkT rfl rfl (nT (byF Iff.rfl hc2)) rfl) <| sq z180 (oAsI rfl rfl) <| nl, (by kernel_rfl)⟩
    · refine Unw.seq ?_
      by_cases hc3 : t_11_m3 = true
      · rw [if_pos hc3] at h
        refine Go.condT rfl (Iff.rfl.2 hc3) ?_
        refine Go.seq ?_
        refine Go.r0 c180 rfl rfl (sq z180 (oAsI rfl rfl) <| nl) ?_
        refine Unw.seq ?_
        refine Go.ret (Unw.ret ?_)
        cases h
        exact Fin_ret (fin_of rfl rF180 rfl (by kernel_rfl))
      · rw [if_neg hc3] at h
        refine Go.condF rfl (byF Iff.rfl hc3) ?_
        refine Go.skip ?_
        refine Unw.blk ?_
        refine Unw.seq ?_
        refine Go.seq ?_
        refine Go.r0 c180 rfl rfl (sq z180 (oAsI rfl rfl) <| nl) ?_
        refine Unw.seq ?_
        refine Go.ret (Unw.ret ?_)
        cases h
        exact Fin_ret (fin_of rfl rF180 rfl (by kernel_rfl))
  · rw [if_neg hc1] at h
    refine Go.condT rfl (nT (byF Iff.rfl hc1)) ?_
    refine Go.seq ?_
    refine Go.r0 c180 rfl rfl (sq z180 (oAsI rfl rfl) <| nl) ?_
    refine Unw.seq ?_
    refine Go.ret (Unw.ret ?_)
    cases h
    exact Fin_ret (fin_of rfl rF180 rfl (by kernel_rfl))
theorem L_impl_GlueEnd {list_0 : (List S_Bond)} {order_1 : (List Int)} {presses_2 : Int} {r : (Int × Int)} (h : impl_GlueEnd list_0 order_1 presses_2 = some r) : FL Try.prog cfg 81 [.im 2 false [.row 4 (List.map e_S_Bond list_0)], .im 2 false [.row 1 (List.map eI order_1)], .im 2 false [.sc (.int .i64 presses_2)]] = some ([(false, [.im 0 (.sc (.int .i64 r.1))]), (false, [.im 0 (.sc (.int .i64 r.2))])], []) := by
  unfold impl_GlueEnd at h
  refine FL_goS (A := [(0, .v false [.im 2 (.row 4 (List.map e_S_Bond list_0))]), (1, .v false [.im 2 (.row 1 (List.map eI order_1))]), (2, .v false [.im 2 (.sc (.int .i64 presses_2))])]) (B := [(0, none), (1, none), (2, none)]) (nt := 26) rfl rfl Try.func81 rfl rfl rfl rfl ?_
  refine Go.seq ?_
  refine Go.r0 c81 rfl rfl (sq z81 (oAsI rfl rfl) <| sq z81 (oAsI rfl rfl) <| nl) ?_
  refine Unw.seq ?_
  refine Go.seq ?_
  refine Go.seq ?_
  obtain ⟨x14, hx14, h⟩ := bs h
  refine Go.r0 c81 rfl rfl (sq z81 (oMv rfl rfl) <| sq z81 (oMv rfl rfl) <| sq z81 (oMv rfl rfl) <| sq z81 (oCa (xs := [.v false [.im 2 _], .v false [.im 2 _], .v false [.im 2 _]]) (vs := [(false, [.im 0 _])]) (v := .v false [.im 0 _]) (L_impl_glueCode hx14) (.inl rfl) rfl kF180_81_27_2 rfl (ppC rfl (ppC rfl (ppC rfl pp0))) rfl rfl pb0 rfl rfl rfl) <| sq z81 (oAsI rfl rfl) <| nl) ?_
  refine Unw.seq ?_
  refine Go.seq ?_
  refine Go.r0 c81 rfl rfl (sq z81 (oMv rfl rfl) <| sq z81 (oBi rfl rfl rfl rfl) <| nl) ?_
  refine Unw.seq ?_
  by_cases hc1 : x14 ≠ 0
  · rw [if_pos hc1] at h
    refine Go.condT rfl (iNe.2 hc1) ?_
    refine Go.seq ?_
    refine Go.r0 c81 rfl rfl (sq z81 (oMv rfl rfl) <| sq z81 (oAsI rfl rfl) <| sq z81 (oAsI rfl rfl) <| nl) ?_
    refine Unw.seq ?_
    refine Go.ret (Unw.ret ?_)
    cases h
    exact Fin_ret (fin_of rfl rF81 rfl (by kernel_rfl))
  · rw [if_neg hc1] at h
    refine Go.condF rfl (byF iNe hc1) ?_
    refine Go.skip ?_
    refine Unw.seq ?_
    refine Go.seq ?_
    obtain ⟨x22, hx22, h⟩ := bs h
    refine Go.r0 c81 rfl rfl (sq z81 (oMv rfl rfl) <| sq z81 (oMv rfl rfl) <| sq z81 (oMv rfl rfl) <| sq z81 (oCr (xs := [.v false [.im 2 _], .v false [.im 2 _], .v false [.im 2 _]]) (vs := [(false, [.own 22 0 0]), (false, [.im 0 _])]) (v := .tup [(false, [.own 22 0 0]), (false, [.im 0 _])]) (c := ⟨.sh, 0, _⟩) (cs := []) (L_impl_glueAll hx22) (.inl rfl) rfl kF179_81_27_2 rfl (ppC rfl (ppC rfl (ppC rfl pp0))) rfl rfl pb0 rfl rfl rfl) <| sq z81 (oMvT rfl rfl) <| sq z81 (oEx rfl rfl rfl) <| sq z81 (oEx rfl rfl rfl) <| sq z81 (oAsO rfl rfl rfl rfl rfl) <| sq z81 (oAsI rfl rfl) <| nl) ?_
    refine Unw.seq ?_
    refine Go.seq ?_
    refine Go.r0 c81 rfl rfl (sq z81 (oMv rfl rfl) <| sq z81 (oAsI rfl rfl) <| sq z81 (oAsI rfl rfl) <| nl) ?_
    refine Unw.seq ?_
    refine Go.ret (Unw.ret ?_)
    cases h
    exact Fin_ret (fin_of rfl rF81 rfl (by kernel_rfl))
theorem L_impl_OpenWaste {list_0 : (List S_Bond)} {order_1 : (List Int)} {presses_2 : Int} {r : (Int × Int)} (h : impl_OpenWaste list_0 order_1 presses_2 = some r) : FL Try.prog cfg 82 [.im 2 false [.row 4 (List.map e_S_Bond list_0)], .im 2 false [.row 1 (List.map eI order_1)], .im 2 false [.sc (.int .i64 presses_2)]] = some ([(false, [.im 0 (.sc (.int .i64 r.1))]), (false, [.im 0 (.sc (.int .i64 r.2))])], []) := by
  unfold impl_OpenWaste at h
  refine FL_goS (A := [(0, .v false [.im 2 (.row 4 (List.map e_S_Bond list_0))]), (1, .v false [.im 2 (.row 1 (List.map eI order_1))]), (2, .v false [.im 2 (.sc (.int .i64 presses_2))])]) (B := [(0, none), (1, none), (2, none)]) (nt := 50) rfl rfl Try.func82 rfl rfl rfl rfl ?_
  refine Go.seq ?_
  refine Go.r0 c82 rfl rfl (sq z82 (oAsI rfl rfl) <| sq z82 (oAsI rfl rfl) <| nl) ?_
  refine Unw.seq ?_
  refine Go.seq ?_
  refine Go.seq ?_
  obtain ⟨x17, hx17, h⟩ := bs h
  refine Go.r0 c82 rfl rfl (sq z82 (oMv rfl rfl) <| sq z82 (oMv rfl rfl) <| sq z82 (oMv rfl rfl) <| sq z82 (oCa (xs := [.v false [.im 2 _], .v false [.im 2 _], .v false [.im 2 _]]) (vs := [(false, [.im 0 _])]) (v := .v false [.im 0 _]) (L_impl_glueCode hx17) (.inl rfl) rfl kF180_81_27_2 rfl (ppC rfl (ppC rfl (ppC rfl pp0))) rfl rfl pb0 rfl rfl rfl) <| sq z82 (oAsI rfl rfl) <| nl) ?_
  refine Unw.seq ?_
  refine Go.seq ?_
  refine Go.r0 c82 rfl rfl (sq z82 (oMv rfl rfl) <| sq z82 (oBi rfl rfl rfl rfl) <| nl) ?_
  refine Unw.seq ?_
  by_cases hc1 : x17 ≠ 0
  · rw [if_pos hc1] at h
    refine Go.condT rfl (iNe.2 hc1) ?_
    refine Go.seq ?_
    refine Go.r0 c82 rfl rfl (sq z82 (oMv rfl rfl) <| sq z82 (oAsI rfl rfl) <| sq z82 (oAsI rfl rfl) <| nl) ?_
    refine Unw.seq ?_
    refine Go.ret (Unw.ret ?_)
    cases h
    exact Fin_ret (fin_of rfl rF82 rfl (by kernel_rfl))
  · rw [if_neg hc1] at h
    refine Go.condF rfl (byF iNe hc1) ?_
    refine Go.skip ?_
    refine Unw.seq ?_
    refine Go.seq ?_
    obtain ⟨x25, hx25, h⟩ := bs h
    refine Go.r0 c82 rfl rfl (sq z82 (oMv rfl rfl) <| sq z82 (oMv rfl rfl) <| sq z82 (oMv rfl rfl) <| sq z82 (oCr (xs := [.v false [.im 2 _], .v false [.im 2 _], .v false [.im 2 _]]) (vs := [(false, [.own 25 0 0]), (false, [.im 0 _])]) (v := .tup [(false, [.own 25 0 0]), (false, [.im 0 _])]) (c := ⟨.sh, 0, _⟩) (cs := []) (L_impl_glueAll hx25) (.inl rfl) rfl kF179_81_27_2 rfl (ppC rfl (ppC rfl (ppC rfl pp0))) rfl rfl pb0 rfl rfl rfl) <| sq z82 (oMvT rfl rfl) <| sq z82 (oEx rfl rfl rfl) <| sq z82 (oEx rfl rfl rfl) <| sq z82 (oAsO rfl rfl rfl rfl rfl) <| sq z82 (oAsI rfl rfl) <| nl) ?_
    refine Unw.seq ?_
    refine Go.seq ?_
    refine Go.r0 c82 rfl rfl (sq z82 (oAsI rfl rfl) <| nl) ?_
    refine Unw.seq ?_
    refine Go.seq ?_
    refine Go.seq ?_
    refine Go.r0 c82 rfl rfl (sq z82 (oMv rfl rfl) <| sq z82 (oLnO rfl rfl uF274 rfl rfl rfl (fun e => nomatch e)) <| sq z82 (oMv rfl rfl) <| nl) ?_
    refine Unw.seq ?_
    refine Go.block ?_
    obtain ⟨o, hl, h⟩ := bs h
    refine Go.lp c82 rfl _ (fun (s : (Int × Int)) => match s with | (sum_11_l7, t_30_l7) => mk [(0, .v false [.im 2 (.row 4 (List.map e_S_Bond list_0))]), (11, iv sum_11_l7), (28, .v false [.own 9 0 0]), (29, iv (x25.1.length : Int)), (30, iv t_30_l7)] [(9, some ⟨0, 0, false, false, false, false, [⟨.sh, 0, 0, .row 4 (List.map e_S_glued x25.1)⟩]⟩)]) (fun (sum_11_e0_7 : Int) (p : Ex × St) => p.1 = .exit 0 ∧ p.2.norm ([11], []) = mk [(11, iv sum_11_e0_7)] []) hl (by kernel_rfl) ?_ ?_ ?_
    · intro o p hp e
      exact nomatch (hp.1.symm.trans e)
    · rintro ⟨sum_11_l7, t_30_l7⟩ o h
      unfold impl_OpenWaste_l7 at h
      dsimp only at h
      refine Go.seq ?_
      refine Go.r0 c82 rfl rfl (sq z82 (oBi rfl rfl rfl rfl) <| nl) ?_
      refine Unw.seq ?_
      refine Go.seq ?_
      by_cases hc4 : t_30_l7 < (x25.1.length : Int)
      · rw [if_pos hc4] at h
        refine Go.condT rfl (iDec.2 hc4) ?_
        refine Go.skip ?_
        refine Unw.seq ?_
        refine Go.seq ?_
        refine Go.block ?_
        refine Go.seq ?_
        obtain ⟨x33, hx33, h⟩ := bs h
        refine Go.r0 c82 rfl rfl (sq z82 (oMv rfl rfl) <| sq z82 (oIAO rfl hx33 sF274 rfl rfl rfl rfl) <| sq z82 (oLdE (cs := [.im 0 _, .im 0 _, .im 0 _, .im 0 _]) rfl tF279 rfl rfl rfl (fun e => nomatch e) (rd_get hx33) rfl rfl) <| sq z82 (oAl rfl tF279 (tkI (tkI (tkI (tkI tk0))))) <| sq z82 (oAsI rfl rfl) <| sq z82 (oSt tF279 rfl rfl rfl (tkI (tkI (tkI (tkI tk0)))) rfl rfl rfl) <| nl) ?_
        refine Unw.seq ?_
        obtain ⟨x43, hx43, h⟩ := bs h
        refine Go.dr c82 rfl rfl rfl (st1 := mk [(0, .v false [.im 2 (.row 4 (List.map e_S_Bond list_0))]), (11, iv sum_11_l7), (12, iv t_30_l7), (13, .v false [.mp 13 0 0]), (28, .v false [.own 9 0 0]), (29, iv (x25.1.length : Int)), (30, iv t_30_l7)] [(9, some ⟨0, 0, false, false, false, false, [⟨.sh, 0, 0, .row 4 (List.map e_S_glued x25.1)⟩]⟩), (13, some ⟨0, 0, false, true, false, true, [⟨.imm, 0, 0, .sc (.int .i64 x33.start)⟩, ⟨.imm, 0, 0, .sc (.int .i64 x33.press)⟩, ⟨.imm, 0, 0, .sc (.int .i64 x33.begin)⟩, ⟨.imm, 0, 0, .sc (.int .i64 x33.end_)⟩]⟩)]) (by kernel_rfl) (mk [(0, .v false [.im 2 (.row 4 (List.map e_S_Bond list_0))]), (11, iv (w64 (sum_11_l7 + (w64 ((w64 (x33.begin - x33.start)) - x43.Spread))))), (28, .v false [.own 9 0 0]), (29, iv (x25.1.length : Int)), (30, iv t_30_l7)] [(9, some ⟨0, 0, false, false, false, false, [⟨.sh, 0, 0, .row 4 (List.map e_S_glued x25.1)⟩]⟩)]) (sT rfl (dN z82 rfl (oMv rfl rfl)) <| sT rfl (dN z82 rfl (oFA (r' := .mp 13 0 2) rfl fF279_2 rfl rfl)) <| sT rfl (dN z82 rfl (oLd (cs := [.im 0 _]) rfl tF2 rfl rfl)) <| sT rfl (dN z82 rfl (oFA (r' := .mp 13 0 0) rfl fF279_0 rfl rfl)) <| sT rfl (dN z82 rfl (oLd (cs := [.im 0 _]) rfl tF2 rfl rfl)) <| sT rfl (dN z82 rfl (oBi rfl rfl rfl rfl)) <| sT rfl (dN z82 rfl (oMv rfl rfl)) <| sT rfl (dN z82 rfl (oMv rfl rfl)) <| sT rfl (dN z82 rfl (oIAI rfl hx43 sF81 rfl rfl)) <| sT rfl (dN z82 rfl (oFA (r' := .im 2 _) rfl fF209_1 rfl rfl)) <| sT rfl (dN z82 rfl (oLd (cs := [.im 2 _]) rfl tF2 rfl rfl)) <| sT rfl (dN z82 rfl (oBi rfl rfl rfl rfl)) <| sT rfl (dN z82 rfl (oBi rfl rfl rfl rfl)) <| sS (dN z82 rfl (oAsI rfl rfl)) trivial (sD (by kernel_rfl))) ?_
        refine Unw.blk ?_
        refine Unw.seq ?_
        refine Go.r0 c82 rfl rfl (sq z82 (oBi rfl rfl rfl rfl) <| sq z82 (oMv rfl rfl) <| nl) ?_
        refine Unw.nil ?_
        cases h
        exact ⟨rfl, (by kernel_rfl)⟩
      · rw [if_neg hc4] at h
        refine Go.condF rfl (byF iDec hc4) ?_
        refine Go.exit ?_
        refine Unw.seqx ?_
        refine Unw.nil ?_
        cases h
        exact ⟨rfl, (by kernel_rfl)⟩
    · rintro ⟨e, st⟩ hp
      obtain ⟨sum_11_e0_7, rfl⟩ : ∃ y, y = o := ⟨o, rfl⟩
      obtain ⟨he, hst⟩ := hp
      obtain rfl : e = .exit 0 := he
      refine Unw.blkx ?_
      refine Unw.seq ?_
      refine Go.seq ?_
      refine Go.r1 c82 rfl rfl hst (sq z82 (oMv rfl rfl) <| sq z82 (oAsI rfl rfl) <| sq z82 (oAsI rfl rfl) <| nl) ?_
      refine Unw.seq ?_
      refine Go.ret (Unw.ret ?_)
      cases h
      exact Fin_ret (fin_of rfl rF82 rfl (by kernel_rfl))
theorem L_spec_l24Draw {s_0 : S_l00Src} {r : ((List S_Bond) × (List Int) × Int × S_l00Src)} (h : spec_l24Draw s_0 = some r) : FL Try.prog cfg 181 [.ptr true [(.imm, .row 1 (List.map (eK .u8) s_0.code)), (.imm, .sc (.int .i64 s_0.at_)), (.imm, .sc (.int .u64 s_0.seed))]] = some ([(false, [.ow 0 4 (List.map e_S_Bond r.1)]), (false, [.ow 0 1 (List.map eI r.2.1)]), (false, [.im 0 (.sc (.int .i64 r.2.2.1))])], [.ptr true [(.imm, .row 1 (List.map (eK .u8) r.2.2.2.code)), (.imm, .sc (.int .i64 r.2.2.2.at_)), (.imm, .sc (.int .u64 r.2.2.2.seed))]]) := by
  unfold spec_l24Draw at h
  refine FL_goS (A := [(0, .v false [.mp 0 0 0])]) (B := [(0, some ⟨0, 0, true, true, false, true, [⟨.imm, 0, 1, .row 1 (List.map (eK .u8) s_0.code)⟩, ⟨.imm, 0, 0, .sc (.int .i64 s_0.at_)⟩, ⟨.imm, 0, 0, .sc (.int .u64 s_0.seed)⟩]⟩)]) (nt := 66) rfl rfl Try.func181 rfl rfl rfl rfl ?_
  refine Go.seq ?_
  refine Go.r0 c181 rfl rfl (sq z181 (oAsN rfl rfl eF81) <| sq z181 (oAsN rfl rfl eF27) <| sq z181 (oAsI rfl rfl) <| nl) ?_
  refine Unw.seq ?_
  refine Go.seq ?_
  obtain ⟨x13, hx13, h⟩ := bs h
  refine Go.r0 c181 rfl rfl (sq z181 (oMv rfl rfl) <| sq z181 (oCr (xs := [.v false [.mp 0 0 0]]) (vs := [(false, [.own 13 0 0])]) (v := .v false [.own 13 0 0]) (c := ⟨.sh, 0, _⟩) (cs := []) (L_spec_l24DrawList hx13) (.inl rfl) rfl kF175_121 rfl (ppP rfl rfl rfl pp0) rfl rfl (pbP rfl rfl pb0) rfl rfl rfl) <| sq z181 (oAsO rfl rfl rfl rfl rfl) <| nl) ?_
  refine Unw.seq ?_
  refine Go.seq ?_
  refine Go.r1 c181 rfl rfl (st1 := mk [(0, .v false [.mp 0 0 0]), (5, .v false [.own 5 0 0])] [(0, some ⟨0, 0, true, true, false, true, [⟨.imm, 0, 1, .row 1 (List.map (eK .u8) x13.2.code)⟩, ⟨.imm, 0, 0, .sc (.int .i64 x13.2.at_)⟩, ⟨.imm, 0, 0, .sc (.int .u64 x13.2.seed)⟩]⟩), (5, some ⟨0, 0, false, false, false, false, [⟨.sh, 0, 0, .row 4 (List.map e_S_Bond x13.1)⟩]⟩)]) (by kernel_rfl) (sq z181 (oBS (es := List.map eI ([] : List Int)) rfl sF27 rfl pt0 (flat0 rfl fun _ => rfl)) <| sq z181 (oAsO rfl rfl rfl rfl rfl) <| nl) ?_
  refine Unw.seq ?_
  refine Go.seq ?_
  refine Go.r0 c181 rfl rfl (sq z181 (oMv rfl rfl) <| sq z181 (oLnO rfl rfl uF81 rfl rfl rfl (fun e => nomatch e)) <| sq z181 (oAsI rfl rfl) <| nl) ?_
  refine Unw.seq ?_
  refine Go.seq ?_
  refine Go.seq ?_
  refine Go.r0 c181 rfl rfl (sq z181 (oAsI rfl rfl) <| nl) ?_
  refine Unw.seq ?_
  refine Go.block ?_
  obtain ⟨o, hl, h⟩ := bs h
  refine Go.lp c181 rfl _ (fun (s : (Int × (List Int))) => match s with | (k_8_l5, order_o6_l5) => mk [(0, .v false [.mp 0 0 0]), (5, .v false [.own 5 0 0]), (6, .v false [.own 6 0 0]), (7, iv (x13.1.length : Int)), (8, iv k_8_l5)] [(0, some ⟨0, 0, true, true, false, true, [⟨.imm, 0, 1, .row 1 (List.map (eK .u8) x13.2.code)⟩, ⟨.imm, 0, 0, .sc (.int .i64 x13.2.at_)⟩, ⟨.imm, 0, 0, .sc (.int .u64 x13.2.seed)⟩]⟩), (5, some ⟨0, 0, false, false, false, false, [⟨.sh, 0, 0, .row 4 (List.map e_S_Bond x13.1)⟩]⟩), (6, some ⟨0, 0, false, false, false, false, [⟨.sh, 0, 0, .row 1 (List.map eI order_o6_l5)⟩]⟩)]) (fun (order_o6_e0_5 : (List Int)) (p : Ex × St) => p.1 = .exit 0 ∧ p.2.norm ([0, 5, 6, 7], [0, 5, 6]) = mk [(0, .v false [.mp 0 0 0]), (5, .v false [.own 5 0 0]), (6, .v false [.own 6 0 0]), (7, iv (x13.1.length : Int))] [(0, some ⟨0, 0, true, true, false, true, [⟨.imm, 0, 1, .row 1 (List.map (eK .u8) x13.2.code)⟩, ⟨.imm, 0, 0, .sc (.int .i64 x13.2.at_)⟩, ⟨.imm, 0, 0, .sc (.int .u64 x13.2.seed)⟩]⟩), (5, some ⟨0, 0, false, false, false, false, [⟨.sh, 0, 0, .row 4 (List.map e_S_Bond x13.1)⟩]⟩), (6, some ⟨0, 0, false, false, false, false, [⟨.sh, 0, 0, .row 1 (List.map eI order_o6_e0_5)⟩]⟩)]) hl (by kernel_rfl) ?_ ?_ ?_
  · intro o p hp e
    exact nomatch (hp.1.symm.trans e)
  · rintro ⟨k_8_l5, order_o6_l5⟩ o h
    unfold spec_l24Draw_l5 at h
    dsimp only at h
    refine Go.seq ?_
    refine Go.seq ?_
    refine Go.r0 c181 rfl rfl (sq z181 (oMv rfl rfl) <| sq z181 (oMv rfl rfl) <| sq z181 (oBi rfl rfl rfl rfl) <| nl) ?_
    refine Unw.seq ?_
    by_cases hc12 : k_8_l5 < (x13.1.length : Int)
    · rw [if_pos hc12] at h
      refine Go.condT rfl (iDec.2 hc12) ?_
      refine Go.skip ?_
      refine Unw.seq ?_
      refine Go.seq ?_
      refine Go.block ?_
      obtain ⟨x25, hx25, h⟩ := bs h
      refine Go.r0 c181 rfl rfl (sq z181 (oMv rfl rfl) <| sq z181 (oMv rfl rfl) <| sq z181 (oBS (es := List.map eI ([k_8_l5] : List Int)) rfl sF27 rfl (ptC rfl (fxI fx0) rfl pt0) (flat0 rfl fun _ => rfl)) <| sq z181 (oApO (en := eI) (M := ([k_8_l5] : List Int)) rfl hx25 rfl sF27 rfl rfl uF27 (.inl ⟨_, rfl⟩) rfl rfl rfl rfl (el_own rfl rfl) (flat0 rfl fun _ => rfl)) <| sq z181 (oAsO rfl rfl rfl rfl rfl) <| nl) ?_
      refine Unw.blk ?_
      refine Unw.seq ?_
      refine Go.r0 c181 rfl rfl (sq z181 (oMv rfl rfl) <| sq z181 (oBi rfl rfl rfl rfl) <| sq z181 (oAsI rfl rfl) <| nl) ?_
      refine Unw.nil ?_
      cases h
      exact ⟨rfl, (by kernel_rfl)⟩
    · rw [if_neg hc12] at h
      refine Go.condF rfl (byF iDec hc12) ?_
      refine Go.exit ?_
      refine Unw.seqx ?_
      refine Unw.nil ?_
      cases h
      exact ⟨rfl, (by kernel_rfl)⟩
  · rintro ⟨e, st⟩ hp
    obtain ⟨order_o6_e0_5, rfl⟩ : ∃ y, y = o := ⟨o, rfl⟩
    obtain ⟨he, hst⟩ := hp
    obtain rfl : e = .exit 0 := he
    refine Unw.blkx ?_
    refine Unw.seq ?_
    refine Go.seq ?_
    refine Go.seq ?_
    obtain ⟨x27, hx27, h⟩ := bs h
    refine Go.r1 c181 rfl rfl hst (sq z181 (oMv rfl rfl) <| sq z181 (oCa (xs := [.v false [.mp 0 0 0], .v false [.im 0 _]]) (vs := [(false, [.im 0 _])]) (v := .v false [.im 0 _]) (L_spec_l00Src_pick hx27) (.inl rfl) rfl kF184_121_2 rfl (ppP rfl rfl rfl (ppC rfl pp0)) rfl rfl (pbP rfl rfl pb0) rfl rfl rfl) <| sq z181 (oAsI rfl rfl) <| nl) ?_
    refine Unw.seq ?_
    refine Go.block ?_
    obtain ⟨o, hl, h⟩ := bs h
    refine Go.lp c181 rfl _ (fun (s : (Int × (List Int) × Int × Int × (List Int))) => match s with | (k_9_l9, s_o0_0_l9, s_o0_1_l9, s_o0_2_l9, order_o6_l9) => mk [(0, .v false [.mp 0 0 0]), (5, .v false [.own 5 0 0]), (6, .v false [.own 6 0 0]), (7, iv (x13.1.length : Int)), (9, iv k_9_l9)] [(0, some ⟨0, 0, true, true, false, true, [⟨.imm, 0, 1, .row 1 (List.map (eK .u8) s_o0_0_l9)⟩, ⟨.imm, 0, 0, .sc (.int .i64 s_o0_1_l9)⟩, ⟨.imm, 0, 0, .sc (.int .u64 s_o0_2_l9)⟩]⟩), (5, some ⟨0, 0, false, false, false, false, [⟨.sh, 0, 0, .row 4 (List.map e_S_Bond x13.1)⟩]⟩), (6, some ⟨0, 0, false, false, false, false, [⟨.sh, 0, 0, .row 1 (List.map eI order_o6_l9)⟩]⟩)]) (fun (o : ((List Int) × Int × Int × (List Int))) (p : Ex × St) => match o with | (s_o0_0_e2_9, s_o0_1_e2_9, s_o0_2_e2_9, order_o6_e2_9) => p.1 = .exit 2 ∧ p.2.norm ([0, 5, 6], [0, 5, 6]) = mk [(0, .v false [.mp 0 0 0]), (5, .v false [.own 5 0 0]), (6, .v false [.own 6 0 0])] [(0, some ⟨0, 0, true, true, false, true, [⟨.imm, 0, 1, .row 1 (List.map (eK .u8) s_o0_0_e2_9)⟩, ⟨.imm, 0, 0, .sc (.int .i64 s_o0_1_e2_9)⟩, ⟨.imm, 0, 0, .sc (.int .u64 s_o0_2_e2_9)⟩]⟩), (5, some ⟨0, 0, false, false, false, false, [⟨.sh, 0, 0, .row 4 (List.map e_S_Bond x13.1)⟩]⟩), (6, some ⟨0, 0, false, false, false, false, [⟨.sh, 0, 0, .row 1 (List.map eI order_o6_e2_9)⟩]⟩)]) hl (by kernel_rfl) ?_ ?_ ?_
    · intro o p hp e
      obtain ⟨s_o0_0_e2_9, s_o0_1_e2_9, s_o0_2_e2_9, order_o6_e2_9⟩ := o
      exact nomatch (hp.1.symm.trans e)
    · rintro ⟨k_9_l9, s_o0_0_l9, s_o0_1_l9, s_o0_2_l9, order_o6_l9⟩ o h
      unfold spec_l24Draw_l9 at h
      dsimp only at h
      refine Go.seq ?_
      refine Go.seq ?_
      refine Go.rX c181 rfl rfl rfl (mk [(0, .v false [.mp 0 0 0]), (5, .v false [.own 5 0 0]), (6, .v false [.own 6 0 0]), (7, iv (x13.1.length : Int)), (9, iv k_9_l9), (33, bv ((decide (k_9_l9 > 0)) && (decide ((x13.1.length : Int) > 1))))] [(0, some ⟨0, 0, true, true, false, true, [⟨.imm, 0, 1, .row 1 (List.map (eK .u8) s_o0_0_l9)⟩, ⟨.imm, 0, 0, .sc (.int .i64 s_o0_1_l9)⟩, ⟨.imm, 0, 0, .sc (.int .u64 s_o0_2_l9)⟩]⟩), (5, some ⟨0, 0, false, false, false, false, [⟨.sh, 0, 0, .row 4 (List.map e_S_Bond x13.1)⟩]⟩), (6, some ⟨0, 0, false, false, false, false, [⟨.sh, 0, 0, .row 1 (List.map eI order_o6_l9)⟩]⟩)]) ?_ ?_
      · by_cases hc10 : k_9_l9 > 0
        · exact ⟨_, sq z181 (oMv rfl rfl) <| sq z181 (oBi rfl rfl rfl rfl) <| sq z181 (oMv rfl rfl) <| sgT z181 rfl rfl (iDec.2 hc10) (oMv rfl rfl) <| sgT z181 rfl rfl (iDec.2 hc10) (oBi rfl rfl rfl rfl) <| sq z181 (oPkT rfl rfl (iDec.2 hc10) rfl) <| nl, (Eq.trans (b := (fun t_33_m9 : Bool => mk [(0, .v false [.mp 0 0 0]), (5, .v false [.own 5 0 0]), (6, .v false [.own 6 0 0]), (7, iv (x13.1.length : Int)), (9, iv k_9_l9), (33, bv t_33_m9)] [(0, some ⟨0, 0, true, true, false, true, [⟨.imm, 0, 1, .row 1 (List.map (eK .u8) s_o0_0_l9)⟩, ⟨.imm, 0, 0, .sc (.int .i64 s_o0_1_l9)⟩, ⟨.imm, 0, 0, .sc (.int .u64 s_o0_2_l9)⟩]⟩), (5, some ⟨0, 0, false, false, false, false, [⟨.sh, 0, 0, .row 4 (List.map e_S_Bond x13.1)⟩]⟩), (6, some ⟨0, 0, false, false, false, false, [⟨.sh, 0, 0, .row 1 (List.map eI order_o6_l9)⟩]⟩)]) (decide ((x13.1.length : Int) > 1))) (by kernel_rfl) (congrArg (fun t_33_m9 : Bool => mk [(0, .v false [.mp 0 0 0]), (5, .v false [.own 5 0 0]), (6, .v false [.own 6 0 0]), (7, iv (x13.1.length : Int)), (9, iv k_9_l9), (33, bv t_33_m9)] [(0, some ⟨0, 0, true, true, false, true, [⟨.imm, 0, 1, .row 1 (List.map (eK .u8) s_o0_0_l9)⟩, ⟨.imm, 0, 0, .sc (.int .i64 s_o0_1_l9)⟩, ⟨.imm, 0, 0, .sc (.int .u64 s_o0_2_l9)⟩]⟩), (5, some ⟨0, 0, false, false, false, false, [⟨.sh, 0, 0, .row 4 (List.map e_S_Bond x13.1)⟩]⟩), (6, some ⟨0, 0, false, false, false, false, [⟨.sh, 0, 0, .row 1 (List.map eI order_o6_l9)⟩]⟩)]) (by first | rfl | (simp [(iDec.2 hc10)]; done) | (simp [(iDec.2 hc10)]; omega))))⟩
        · exact ⟨_, sq z181 (oMv rfl rfl) <| sq z181 (oBi rfl rfl rfl rfl) <| sq z181 (oMv rfl rfl) <| sgF rfl rfl (byF iDec hc10) rfl <| sgF rfl rfl (byF iDec hc10) rfl <| sq z181 (oPkF rfl rfl (byF iDec hc10) rfl) <| nl, (Eq.trans (b := (fun t_33_m9 : Bool => mk [(0, .v false [.mp 0 0 0]), (5, .v false [.own 5 0 0]), (6, .v false [.own 6 0 0]), (7, iv (x13.1.length : Int)), (9, iv k_9_l9), (33, bv t_33_m9)] [(0, some ⟨0, 0, true, true, false, true, [⟨.imm, 0, 1, .row 1 (List.map (eK .u8) s_o0_0_l9)⟩, ⟨.imm, 0, 0, .sc (.int .i64 s_o0_1_l9)⟩, ⟨.imm, 0, 0, .sc (.int .u64 s_o0_2_l9)⟩]⟩), (5, some ⟨0, 0, false, false, false, false, [⟨.sh, 0, 0, .row 4 (List.map e_S_Bond x13.1)⟩]⟩), (6, some ⟨0, 0, false, false, false, false, [⟨.sh, 0, 0, .row 1 (List.map eI order_o6_l9)⟩]⟩)]) false) (by kernel_rfl) (congrArg (fun t_33_m9 : Bool => mk [(0, .v false [.mp 0 0 0]), (5, .v false [.own 5 0 0]), (6, .v false [.own 6 0 0]), (7, iv (x13.1.length : Int)), (9, iv k_9_l9), (33, bv t_33_m9)] [(0, some ⟨0, 0, true, true, false, true, [⟨.imm, 0, 1, .row 1 (List.map (eK .u8) s_o0_0_l9)⟩, ⟨.imm, 0, 0, .sc (.int .i64 s_o0_1_l9)⟩, ⟨.imm, 0, 0, .sc (.int .u64 s_o0_2_l9)⟩]⟩), (5, some ⟨0, 0, false, false, false, false, [⟨.sh, 0, 0, .row 4 (List.map e_S_Bond x13.1)⟩]⟩), (6, some ⟨0, 0, false, false, false, false, [⟨.sh, 0, 0, .row 1 (List.map eI order_o6_l9)⟩]⟩)]) (by first | rfl | (simp [(byF iDec hc10)]; done) | (simp [(byF iDec hc10)]; omega))))⟩
      · refine Unw.seq ?_
        by_cases hc11 : (k_9_l9 > 0 ∧ (x13.1.length : Int) > 1)
        · rw [if_pos hc11] at h
          refine Go.condT rfl ((iAnd iDec iDec).2 hc11) ?_
          refine Go.skip ?_
          refine Unw.seq ?_
          refine Go.seq ?_
          refine Go.block ?_
          refine Go.seq ?_
          obtain ⟨x39, hx39, h⟩ := bs h
          refine Go.r0 c181 rfl rfl (sq z181 (oMv rfl rfl) <| sq z181 (oMv rfl rfl) <| sq z181 (oBi rfl rfl rfl rfl) <| sq z181 (oCa (xs := [.v false [.mp 0 0 0], .v false [.im 0 _]]) (vs := [(false, [.im 0 _])]) (v := .v false [.im 0 _]) (L_spec_l00Src_pick hx39) (.inl rfl) rfl kF184_121_2 rfl (ppP rfl rfl rfl (ppC rfl pp0)) rfl rfl (pbP rfl rfl pb0) rfl rfl rfl) <| sq z181 (oAsI rfl rfl) <| nl) ?_
          refine Unw.seq ?_
          refine Go.seq ?_
          obtain ⟨x42, hx42, h⟩ := bs h
          refine Go.r1 c181 rfl rfl (st1 := mk [(0, .v false [.mp 0 0 0]), (5, .v false [.own 5 0 0]), (6, .v false [.own 6 0 0]), (7, iv (x13.1.length : Int)), (9, iv k_9_l9), (10, iv x39.1)] [(0, some ⟨0, 0, true, true, false, true, [⟨.imm, 0, 1, .row 1 (List.map (eK .u8) x39.2.code)⟩, ⟨.imm, 0, 0, .sc (.int .i64 x39.2.at_)⟩, ⟨.imm, 0, 0, .sc (.int .u64 x39.2.seed)⟩]⟩), (5, some ⟨0, 0, false, false, false, false, [⟨.sh, 0, 0, .row 4 (List.map e_S_Bond x13.1)⟩]⟩), (6, some ⟨0, 0, false, false, false, false, [⟨.sh, 0, 0, .row 1 (List.map eI order_o6_l9)⟩]⟩)]) (by kernel_rfl) (sq z181 (oMv rfl rfl) <| sq z181 (oMv rfl rfl) <| sq z181 (oIAO rfl hx42 sF27 rfl rfl rfl rfl) <| sq z181 (oLdE (cs := [.im 0 _]) rfl tF2 rfl rfl rfl (fun e => nomatch e) (rd_get hx42) rfl rfl) <| sq z181 (oAsI rfl rfl) <| nl) ?_
          refine Unw.seq ?_
          refine Go.seq ?_
          obtain ⟨x49, hx49, h⟩ := bs h
          obtain ⟨x51, hx51, h⟩ := bs h
          refine Go.r0 c181 rfl rfl (sq z181 (oMv rfl rfl) <| sq z181 (oMv rfl rfl) <| sq z181 (oMv rfl rfl) <| sq z181 (oMv rfl rfl) <| sq z181 (oBi rfl rfl rfl rfl) <| sq z181 (oIAO rfl hx49 sF27 rfl rfl rfl rfl) <| sq z181 (oLdE (cs := [.im 0 _]) rfl tF2 rfl rfl rfl (fun e => nomatch e) (rd_get hx49) rfl rfl) <| sq z181 (oIAO rfl hx51 sF27 rfl rfl rfl rfl) <| sq z181 (oStE (v' := x49) tF2 rfl rfl rfl (fxI fx0) rfl rfl (rd_get hx51) rfl) <| nl) ?_
          refine Unw.seq ?_
          obtain ⟨x56, hx56, h⟩ := bs h
          refine Go.r1 c181 rfl rfl (st1 := mk [(0, .v false [.mp 0 0 0]), (5, .v false [.own 5 0 0]), (6, .v false [.own 6 0 0]), (7, iv (x13.1.length : Int)), (9, iv k_9_l9), (10, iv x39.1), (11, iv x42)] [(0, some ⟨0, 0, true, true, false, true, [⟨.imm, 0, 1, .row 1 (List.map (eK .u8) x39.2.code)⟩, ⟨.imm, 0, 0, .sc (.int .i64 x39.2.at_)⟩, ⟨.imm, 0, 0, .sc (.int .u64 x39.2.seed)⟩]⟩), (5, some ⟨0, 0, false, false, false, false, [⟨.sh, 0, 0, .row 4 (List.map e_S_Bond x13.1)⟩]⟩), (6, some ⟨0, 0, false, false, false, false, [⟨.sh, 0, 0, .row 1 (List.map eI (order_o6_l9.set x39.1.toNat x49))⟩]⟩)]) (by kernel_rfl) (sq z181 (oMv rfl rfl) <| sq z181 (oMv rfl rfl) <| sq z181 (oBi rfl rfl rfl rfl) <| sq z181 (oMv rfl rfl) <| sq z181 (oIAO rfl hx56 sF27 rfl rfl rfl rfl) <| sq z181 (oStE (v' := x42) tF2 rfl rfl rfl (fxI fx0) rfl rfl (rd_get hx56) rfl) <| nl) ?_
          refine Unw.blk ?_
          refine Unw.seq ?_
          refine Go.r1 c181 rfl rfl (st1 := mk [(0, .v false [.mp 0 0 0]), (5, .v false [.own 5 0 0]), (6, .v false [.own 6 0 0]), (7, iv (x13.1.length : Int)), (9, iv k_9_l9)] [(0, some ⟨0, 0, true, true, false, true, [⟨.imm, 0, 1, .row 1 (List.map (eK .u8) x39.2.code)⟩, ⟨.imm, 0, 0, .sc (.int .i64 x39.2.at_)⟩, ⟨.imm, 0, 0, .sc (.int .u64 x39.2.seed)⟩]⟩), (5, some ⟨0, 0, false, false, false, false, [⟨.sh, 0, 0, .row 4 (List.map e_S_Bond x13.1)⟩]⟩), (6, some ⟨0, 0, false, false, false, false, [⟨.sh, 0, 0, .row 1 (List.map eI ((order_o6_l9.set x39.1.toNat x49).set ((w64 (x39.1 + 1)).toNat) x42))⟩]⟩)]) (by kernel_rfl) (sq z181 (oMv rfl rfl) <| sq z181 (oBi rfl rfl rfl rfl) <| sq z181 (oAsI rfl rfl) <| nl) ?_
          refine Unw.nil ?_
          cases h
          exact ⟨rfl, (by kernel_rfl)⟩
        · rw [if_neg hc11] at h
          refine Go.condF rfl (byF (iAnd iDec iDec) hc11) ?_
          refine Go.exit ?_
          refine Unw.seqx ?_
          refine Unw.nil ?_
          cases h
          exact ⟨rfl, (by kernel_rfl)⟩
    · rintro ⟨e, st⟩ hp
      obtain ⟨s_o0_0_e2_9, s_o0_1_e2_9, s_o0_2_e2_9, order_o6_e2_9⟩ := o
      dsimp only at h
      obtain ⟨he, hst⟩ := hp
      obtain rfl : e = .exit 2 := he
      refine Unw.blkx ?_
      refine Unw.seq ?_
      refine Go.seq ?_
      refine Go.seq ?_
      obtain ⟨x58, hx58, h⟩ := bs h
      refine Go.r1 c181 rfl rfl hst (sq z181 (oMv rfl rfl) <| sq z181 (oCa (xs := [.v false [.mp 0 0 0], .v false [.im 0 _]]) (vs := [(false, [.im 0 _])]) (v := .v false [.im 0 _]) (L_spec_l00Src_one hx58) (.inl rfl) rfl kF183_121_2 rfl (ppP rfl rfl rfl (ppC rfl pp0)) rfl rfl (pbP rfl rfl pb0) rfl rfl rfl) <| nl) ?_
      refine Unw.seq ?_
      refine Go.join (fun st => ∃ order_o6_r17, spec_l24Draw_k17 x13 x58 order_o6_r17 = some r ∧ st.norm ([0, 5, 6], [0, 5, 6]) = mk [(0, .v false [.mp 0 0 0]), (5, .v false [.own 5 0 0]), (6, .v false [.own 6 0 0])] [(0, some ⟨0, 0, true, true, false, true, [⟨.imm, 0, 1, .row 1 (List.map (eK .u8) x58.2.code)⟩, ⟨.imm, 0, 0, .sc (.int .i64 x58.2.at_)⟩, ⟨.imm, 0, 0, .sc (.int .u64 x58.2.seed)⟩]⟩), (5, some ⟨0, 0, false, false, false, false, [⟨.sh, 0, 0, .row 4 (List.map e_S_Bond x13.1)⟩]⟩), (6, some ⟨0, 0, false, false, false, false, [⟨.sh, 0, 0, .row 1 (List.map eI order_o6_r17)⟩]⟩)]) ?_ ?_
      · rintro st ⟨order_o6_r17, h, hst⟩
        unfold spec_l24Draw_k17 at h
        refine Unw.seq ?_
        refine Go.seq ?_
        obtain ⟨x65, hx65, h⟩ := bs h
        refine Go.r1 c181 rfl rfl hst (sq z181 (oMv rfl rfl) <| sq z181 (oMv rfl rfl) <| sq z181 (oMv rfl rfl) <| sq z181 (oCa (xs := [.v false [.mp 0 0 0]]) (vs := [(false, [.im 0 _])]) (v := .v false [.im 0 _]) (L_spec_l24DrawPresses hx65) (.inl rfl) rfl kF176_121 rfl (ppP rfl rfl rfl pp0) rfl rfl (pbP rfl rfl pb0) rfl rfl rfl) <| sq z181 (oAsO rfl rfl rfl rfl rfl) <| sq z181 (oAsO rfl rfl rfl rfl rfl) <| sq z181 (oAsI rfl rfl) <| nl) ?_
        refine Unw.seq ?_
        refine Go.ret (Unw.ret ?_)
        cases h
        exact Fin_ret (fin_of rfl rF181 rfl (by kernel_rfl))
      · intro K8
        by_cases hc9 : x58.1 = true
        · rw [if_pos hc9] at h
          refine Go.condT rfl (Iff.rfl.2 hc9) ?_
          obtain ⟨x61, hx61, h⟩ := bs h
          refine Go.r1 c181 rfl rfl (st1 := mk [(0, .v false [.mp 0 0 0]), (5, .v false [.own 5 0 0]), (6, .v false [.own 6 0 0])] [(0, some ⟨0, 0, true, true, false, true, [⟨.imm, 0, 1, .row 1 (List.map (eK .u8) x58.2.code)⟩, ⟨.imm, 0, 0, .sc (.int .i64 x58.2.at_)⟩, ⟨.imm, 0, 0, .sc (.int .u64 x58.2.seed)⟩]⟩), (5, some ⟨0, 0, false, false, false, false, [⟨.sh, 0, 0, .row 4 (List.map e_S_Bond x13.1)⟩]⟩), (6, some ⟨0, 0, false, false, false, false, [⟨.sh, 0, 0, .row 1 (List.map eI order_o6_e2_9)⟩]⟩)]) (by kernel_rfl) (sq z181 (oMv rfl rfl) <| sq z181 (oBS (es := List.map eI ([0] : List Int)) rfl sF27 rfl (ptC rfl (fxI fx0) rfl pt0) (flat0 rfl fun _ => rfl)) <| sq z181 (oApO (en := eI) (M := ([0] : List Int)) rfl hx61 rfl sF27 rfl rfl uF27 (.inl ⟨_, rfl⟩) rfl rfl rfl rfl (el_own rfl rfl) (flat0 rfl fun _ => rfl)) <| sq z181 (oAsO rfl rfl rfl rfl rfl) <| nl) ?_
          exact K8 _ ⟨x61, h, (by kernel_rfl)⟩
        · rw [if_neg hc9] at h
          refine Go.condF rfl (byF Iff.rfl hc9) ?_
          refine Go.skip ?_
          exact K8 _ ⟨order_o6_e2_9, h, (by kernel_rfl)⟩
theorem L_spec_DrawPressesFor {code_0 : (List Int)} {r : ((List S_Bond) × (List Int) × Int)} (h : spec_DrawPressesFor code_0 = some r) : FL Try.prog cfg 83 [.im 2 false [.row 1 (List.map (eK .u8) code_0)]] = some ([(false, [.ow 0 4 (List.map e_S_Bond r.1)]), (false, [.ow 0 1 (List.map eI r.2.1)]), (false, [.im 0 (.sc (.int .i64 r.2.2))])], []) := by
  unfold spec_DrawPressesFor at h
  refine FL_goS (A := [(0, .v false [.im 2 (.row 1 (List.map (eK .u8) code_0))])]) (B := [(0, none)]) (nt := 22) rfl rfl Try.func83 rfl rfl rfl rfl ?_
  refine Go.seq ?_
  refine Go.r0 c83 rfl rfl (sq z83 (oAsN rfl rfl eF81) <| sq z83 (oAsN rfl rfl eF27) <| sq z83 (oAsI rfl rfl) <| nl) ?_
  refine Unw.seq ?_
  refine Go.seq ?_
  obtain ⟨x10, hx10, h⟩ := bs h
  refine Go.r0 c83 rfl rfl (sq z83 (oMv rfl rfl) <| sq z83 (oCp (xs := [.v false [.im 2 _]]) (L_spec_l00From hx10) (.inl rfl) rfl kF85_22 rfl (ppC rfl pp0) rfl rfl pb0 rfl) <| sq z83 (oAsP rfl rfl) <| nl) ?_
  refine Unw.seq ?_
  refine Go.seq ?_
  obtain ⟨x13, hx13, h⟩ := bs h
  refine Go.r0 c83 rfl rfl (sq z83 (oMv rfl rfl) <| sq z83 (oCr (xs := [.v false [.mp 10 0 0]]) (vs := [(false, [.own 13 0 0]), (false, [.own 13 0 1]), (false, [.im 0 _])]) (v := .tup [(false, [.own 13 0 0]), (false, [.own 13 0 1]), (false, [.im 0 _])]) (c := ⟨.sh, 0, _⟩) (cs := [⟨.sh, 0, _⟩]) (L_spec_l24Draw hx13) (.inl rfl) rfl kF181_121 rfl (ppP rfl rfl rfl pp0) rfl rfl (pbP rfl rfl pb0) rfl rfl rfl) <| sq z83 (oMvT rfl rfl) <| sq z83 (oEx rfl rfl rfl) <| sq z83 (oEx rfl rfl rfl) <| sq z83 (oEx rfl rfl rfl) <| sq z83 (oAsO rfl rfl rfl rfl rfl) <| sq z83 (oAsO rfl rfl rfl rfl rfl) <| sq z83 (oAsI rfl rfl) <| nl) ?_
  refine Unw.seq ?_
  refine Go.seq ?_
  obtain ⟨x21, hx21, h⟩ := bs h
  refine Go.r1 c83 rfl rfl (st1 := mk [(5, .v false [.mp 10 0 0]), (6, .v false [.own 6 0 0]), (7, .v false [.own 7 0 0])] [(6, some ⟨0, 0, false, false, false, false, [⟨.sh, 0, 0, .row 4 (List.map e_S_Bond x13.1)⟩]⟩), (7, some ⟨0, 0, false, false, false, false, [⟨.sh, 0, 0, .row 1 (List.map eI x13.2.1)⟩]⟩), (10, some ⟨0, 0, false, true, false, true, [⟨.imm, 0, 2, .row 1 (List.map (eK .u8) x13.2.2.2.code)⟩, ⟨.imm, 0, 0, .sc (.int .i64 x13.2.2.2.at_)⟩, ⟨.imm, 0, 0, .sc (.int .u64 x13.2.2.2.seed)⟩]⟩)]) (by kernel_rfl) (sq z83 (oMv rfl rfl) <| sq z83 (oMv rfl rfl) <| sq z83 (oMv rfl rfl) <| sq z83 (oBS (es := List.map eI ([(-1), 0, 40, 90, 150, 400] : List Int)) rfl sF27 rfl (ptC rfl (fxI fx0) rfl (ptC rfl (fxI fx0) rfl (ptC rfl (fxI fx0) rfl (ptC rfl (fxI fx0) rfl (ptC rfl (fxI fx0) rfl (ptC rfl (fxI fx0) rfl pt0)))))) (flat0 rfl fun _ => rfl)) <| sq z83 (oCa (xs := [.v false [.mp 10 0 0], .v false [.own 20 0 0]]) (vs := [(false, [.im 0 _])]) (v := .v false [.im 0 _]) (L_spec_l00Src_among hx21) (.inl rfl) rfl kF99_121_27 rfl (ppP rfl rfl rfl (ppC rfl pp0)) rfl rfl (pbP rfl rfl pb0) rfl rfl rfl) <| sq z83 (oAsO rfl rfl rfl rfl rfl) <| sq z83 (oAsO rfl rfl rfl rfl rfl) <| sq z83 (oAsI rfl rfl) <| nl) ?_
  refine Unw.seq ?_
  refine Go.ret (Unw.ret ?_)
  cases h
  exact Fin_ret (fin_of rfl rF83 rfl (by kernel_rfl))
theorem L_impl_PressesFor {list_0 : (List S_Bond)} {order_1 : (List Int)} {latest_2 : Int} {r : (Int × Int)} (h : impl_PressesFor list_0 order_1 latest_2 = some r) : FL Try.prog cfg 84 [.im 2 false [.row 4 (List.map e_S_Bond list_0)], .im 2 false [.row 1 (List.map eI order_1)], .im 2 false [.sc (.int .i64 latest_2)]] = some ([(false, [.im 0 (.sc (.int .i64 r.1))]), (false, [.im 0 (.sc (.int .i64 r.2))])], []) := by
  unfold impl_PressesFor at h
  refine FL_goS (A := [(0, .v false [.im 2 (.row 4 (List.map e_S_Bond list_0))]), (1, .v false [.im 2 (.row 1 (List.map eI order_1))]), (2, .v false [.im 2 (.sc (.int .i64 latest_2))])]) (B := [(0, none), (1, none), (2, none)]) (nt := 39) rfl rfl Try.func84 rfl rfl rfl rfl ?_
  refine Go.seq ?_
  refine Go.r0 c84 rfl rfl (sq z84 (oAsI rfl rfl) <| sq z84 (oAsI rfl rfl) <| nl) ?_
  refine Unw.seq ?_
  refine Go.seq ?_
  obtain ⟨x14, hx14, h⟩ := bs h
  refine Go.r0 c84 rfl rfl (sq z84 (oMv rfl rfl) <| sq z84 (oMv rfl rfl) <| sq z84 (oCa (xs := [.v false [.im 2 _], .v false [.im 2 _], .v false [.im 0 _]]) (vs := [(false, [.im 0 _])]) (v := .v false [.im 0 _]) (L_impl_glueCode hx14) (.inl rfl) rfl kF180_81_27_2 rfl (ppC rfl (ppC rfl (ppC rfl pp0))) rfl rfl pb0 rfl rfl rfl) <| sq z84 (oAsI rfl rfl) <| nl) ?_
  refine Unw.seq ?_
  refine Go.seq ?_
  refine Go.seq ?_
  refine Go.rX c84 rfl rfl rfl (mk [(0, .v false [.im 2 (.row 4 (List.map e_S_Bond list_0))]), (1, .v false [.im 2 (.row 1 (List.map eI order_1))]), (2, iv latest_2), (8, iv x14), (20, bv ((x14 == 0) && (decide (latest_2 < 0))))] []) ?_ ?_
  · by_cases hc1 : x14 = 0
    · exact ⟨_, sq z84 (oMv rfl rfl) <| sq z84 (oBi rfl rfl rfl rfl) <| sq z84 (oMv rfl rfl) <| sgT z84 rfl rfl (iEq.2 hc1) (oMv rfl rfl) <| sgT z84 rfl rfl (iEq.2 hc1) (oBi rfl rfl rfl rfl) <| sq z84 (oPkT rfl rfl (iEq.2 hc1) rfl) <| nl, (Eq.trans (b := (fun t_20_m2 : Bool => mk [(0, .v false [.im 2 (.row 4 (List.map e_S_Bond list_0))]), (1, .v false [.im 2 (.row 1 (List.map eI order_1))]), (2, iv latest_2), (8, iv x14), (20, bv t_20_m2)] []) (decide (latest_2 < 0))) (by kernel_rfl) (congrArg (fun t_20_m2 : Bool => mk [(0, .v false [.im 2 (.row 4 (List.map e_S_Bond list_0))]), (1, .v false [.im 2 (.row 1 (List.map eI order_1))]), (2, iv latest_2), (8, iv x14), (20, bv t_20_m2)] []) (by first | rfl | (simp [(iEq.2 hc1)]; done) | (simp [(iEq.2 hc1)]; omega))))⟩
    · exact ⟨_, sq z84 (oMv rfl rfl) <| sq z84 (oBi rfl rfl rfl rfl) <| sq z84 (oMv rfl rfl) <| sgF rfl rfl (byF iEq hc1) rfl <| sgF rfl rfl (byF iEq hc1) rfl <| sq z84 (oPkF rfl rfl (byF iEq hc1) rfl) <| nl, (Eq.trans (b := (fun t_20_m2 : Bool => mk [(0, .v false [.im 2 (.row 4 (List.map e_S_Bond list_0))]), (1, .v false [.im 2 (.row 1 (List.map eI order_1))]), (2, iv latest_2), (8, iv x14), (20, bv t_20_m2)] []) false) (by kernel_rfl) (congrArg (fun t_20_m2 : Bool => mk [(0, .v false [.im 2 (.row 4 (List.map e_S_Bond list_0))]), (1, .v false [.im 2 (.row 1 (List.map eI order_1))]), (2, iv latest_2), (8, iv x14), (20, bv t_20_m2)] []) (by first | rfl | (simp [(byF iEq hc1)]; done) | (simp [(byF iEq hc1)]; omega))))⟩
  · refine Unw.seq ?_
    refine Go.join (fun st => ∃ code_8_r4, impl_PressesFor_k4 latest_2 list_0 order_1 code_8_r4 = some r ∧ st.norm ([0, 1, 2, 8], []) = mk [(0, .v false [.im 2 (.row 4 (List.map e_S_Bond list_0))]), (1, .v false [.im 2 (.row 1 (List.map eI order_1))]), (2, iv latest_2), (8, iv code_8_r4)] []) ?_ ?_
    · rintro st ⟨code_8_r4, h, hst⟩
      unfold impl_PressesFor_k4 at h
      refine Unw.seq ?_
      refine Go.seq ?_
      refine Go.seq ?_
      refine Go.r1 c84 rfl rfl hst (sq z84 (oMv rfl rfl) <| sq z84 (oBi rfl rfl rfl rfl) <| nl) ?_
      refine Unw.seq ?_
      by_cases hc3 : code_8_r4 ≠ 0
      · rw [if_pos hc3] at h
        refine Go.condT rfl (iNe.2 hc3) ?_
        refine Go.seq ?_
        refine Go.r0 c84 rfl rfl (sq z84 (oMv rfl rfl) <| sq z84 (oAsI rfl rfl) <| sq z84 (oAsI rfl rfl) <| nl) ?_
        refine Unw.seq ?_
        refine Go.ret (Unw.ret ?_)
        cases h
        exact Fin_ret (fin_of rfl rF84 rfl (by kernel_rfl))
      · rw [if_neg hc3] at h
        refine Go.condF rfl (byF iNe hc3) ?_
        refine Go.skip ?_
        refine Unw.seq ?_
        refine Go.seq ?_
        refine Go.seq ?_
        refine Go.r0 c84 rfl rfl (sq z84 (oAsI rfl rfl) <| nl) ?_
        refine Unw.seq ?_
        refine Go.block ?_
        obtain ⟨o, hl, h⟩ := bs h
        refine Go.lp c84 rfl _ (fun (presses_9_l7 : Int) => mk [(0, .v false [.im 2 (.row 4 (List.map e_S_Bond list_0))]), (1, .v false [.im 2 (.row 1 (List.map eI order_1))]), (2, iv latest_2), (9, iv presses_9_l7)] []) (fun (o : (Unit ⊕ (Int × Int))) (p : Ex × St) => match o with | (.inl _) => p.1 = .exit 0 ∧ p.2.norm ([], []) = mk [] [] | (.inr r2) => p.1 = .ret ∧ fin Try.prog cfg 84 Try.f84 [.im 2 false [.row 4 (List.map e_S_Bond list_0)], .im 2 false [.row 1 (List.map eI order_1)], .im 2 false [.sc (.int .i64 latest_2)]] p.2 = some ([(false, [.im 0 (.sc (.int .i64 r2.1))]), (false, [.im 0 (.sc (.int .i64 r2.2))])], [])) hl (by kernel_rfl) ?_ ?_ ?_
        · intro o p hp e
          rcases o with u | r2 <;> exact nomatch (hp.1.symm.trans e)
        · rintro presses_9_l7 o h
          unfold impl_PressesFor_l7 at h
          refine Go.seq ?_
          refine Go.seq ?_
          refine Go.r0 c84 rfl rfl (sq z84 (oMv rfl rfl) <| sq z84 (oBi rfl rfl rfl rfl) <| nl) ?_
          refine Unw.seq ?_
          by_cases hc8 : presses_9_l7 ≤ 4
          · rw [if_pos hc8] at h
            refine Go.condT rfl (iDec.2 hc8) ?_
            refine Go.skip ?_
            refine Unw.seq ?_
            refine Go.seq ?_
            refine Go.block ?_
            refine Go.seq ?_
            obtain ⟨x32, hx32, h⟩ := bs h
            refine Go.r0 c84 rfl rfl (sq z84 (oMv rfl rfl) <| sq z84 (oMv rfl rfl) <| sq z84 (oMv rfl rfl) <| sq z84 (oCr (xs := [.v false [.im 2 _], .v false [.im 2 _], .v false [.im 0 _]]) (vs := [(false, [.own 32 0 0]), (false, [.im 0 _])]) (v := .tup [(false, [.own 32 0 0]), (false, [.im 0 _])]) (c := ⟨.sh, 0, _⟩) (cs := []) (L_impl_glueAll hx32) (.inl rfl) rfl kF179_81_27_2 rfl (ppC rfl (ppC rfl (ppC rfl pp0))) rfl rfl pb0 rfl rfl rfl) <| sq z84 (oMvT rfl rfl) <| sq z84 (oEx rfl rfl rfl) <| sq z84 (oEx rfl rfl rfl) <| sq z84 (oAsO rfl rfl rfl rfl rfl) <| sq z84 (oAsI rfl rfl) <| nl) ?_
            refine Unw.seq ?_
            refine Go.seq ?_
            refine Go.r0 c84 rfl rfl (sq z84 (oMv rfl rfl) <| sq z84 (oMv rfl rfl) <| sq z84 (oBi rfl rfl rfl rfl) <| nl) ?_
            refine Unw.seq ?_
            by_cases hc9 : x32.2 ≤ latest_2
            · rw [if_pos hc9] at h
              refine Go.condT rfl (iDec.2 hc9) ?_
              refine Go.seq ?_
              refine Go.r0 c84 rfl rfl (sq z84 (oMv rfl rfl) <| sq z84 (oAsI rfl rfl) <| sq z84 (oAsI rfl rfl) <| nl) ?_
              refine Unw.seq ?_
              refine Go.ret (Unw.ret ?_)
              cases h
              exact ⟨rfl, (fin_of rfl rF84 rfl (by kernel_rfl))⟩
            · rw [if_neg hc9] at h
              refine Go.condF rfl (byF iDec hc9) ?_
              refine Go.skip ?_
              refine Unw.blk ?_
              refine Unw.seq ?_
              refine Go.r0 c84 rfl rfl (sq z84 (oMv rfl rfl) <| sq z84 (oBi rfl rfl rfl rfl) <| sq z84 (oAsI rfl rfl) <| nl) ?_
              refine Unw.nil ?_
              cases h
              exact ⟨rfl, (by kernel_rfl)⟩
          · rw [if_neg hc8] at h
            refine Go.condF rfl (byF iDec hc8) ?_
            refine Go.exit ?_
            refine Unw.seqx ?_
            refine Unw.nil ?_
            cases h
            exact ⟨rfl, (by kernel_rfl)⟩
        · rintro ⟨e, st⟩ hp
          rcases o with u | r2
          · dsimp only at h
            obtain ⟨he, hst⟩ := hp
            obtain rfl : e = .exit 0 := he
            refine Unw.blkx ?_
            refine Unw.seq ?_
            refine Go.seq ?_
            refine Go.r1 c84 rfl rfl hst (sq z84 (oAsI rfl rfl) <| sq z84 (oAsI rfl rfl) <| nl) ?_
            refine Unw.seq ?_
            refine Go.ret (Unw.ret ?_)
            cases h
            exact Fin_ret (fin_of rfl rF84 rfl (by kernel_rfl))
          · dsimp only at h
            obtain ⟨he, hfin⟩ := hp
            obtain rfl : e = .ret := he
            cases h
            exact Unw.ret (Fin_ret hfin)
    · intro K10
      by_cases hc11 : (x14 = 0 ∧ latest_2 < 0)
      · rw [if_pos hc11] at h
        refine Go.condT rfl ((iAnd iEq iDec).2 hc11) ?_
        refine Go.r0 c84 rfl rfl (sq z84 (oAsI rfl rfl) <| nl) ?_
        exact K10 _ ⟨2, h, (by kernel_rfl)⟩
      · rw [if_neg hc11] at h
        refine Go.condF rfl (byF (iAnd iEq iDec) hc11) ?_
        refine Go.skip ?_
        exact K10 _ ⟨x14, h, (by kernel_rfl)⟩
theorem L_laws_FnGlueOrder {code_0 : (List Int)} {more_1 : (List Int)} {r : Bool} (h : laws_FnGlueOrder code_0 more_1 = some r) : FL Try.prog cfg 13 [.im 2 false [.row 1 (List.map (eK .u8) code_0)], .im 2 false [.row 1 (List.map (eK .u8) more_1)]] = some ([(false, [.im 0 (.sc (.bool r))])], []) := by
  unfold laws_FnGlueOrder at h
  refine FL_goS (A := [(0, .v false [.im 2 (.row 1 (List.map (eK .u8) code_0))]), (1, .v false [.im 2 (.row 1 (List.map (eK .u8) more_1))])]) (B := [(0, none), (1, none)]) (nt := 167) rfl rfl Try.func13 rfl rfl rfl rfl ?_
  refine Go.seq ?_
  refine Go.r0 c13 rfl rfl (sq z13 (oAsI rfl rfl) <| nl) ?_
  refine Unw.seq ?_
  refine Go.seq ?_
  refine Go.seq ?_
  obtain ⟨x30, hx30, h⟩ := bs h
  obtain ⟨t_34_m1, hm18, h⟩ := bs h
  refine Go.rX c13 rfl rfl rfl (mk [(0, .v false [.im 2 (.row 1 (List.map (eK .u8) code_0))]), (1, .v false [.im 2 (.row 1 (List.map (eK .u8) more_1))]), (34, bv t_34_m1)] []) ?_ ?_
  · by_cases hc1 : x30 = true
    · rw [if_pos hc1] at hm18
      cases hm18
      exact ⟨_, sq z13 (oMv rfl rfl) <| sq z13 (oCa (xs := [.v false [.im 2 _]]) (vs := [(false, [.im 0 _])]) (v := .v false [.im 0 _]) (L_laws_b10Long hx30) (.inl rfl) rfl kF14_22 rfl (ppC rfl pp0) rfl rfl pb0 rfl rfl rfl) <| sq z13 (oMv rfl rfl) <| sgF rfl rfl (Iff.rfl.2 hc1) rfl <| sgF rfl rfl (Iff.rfl.2 hc1) rfl <| sq z13 (oPkT rfl rfl (Iff.rfl.2 hc1) rfl) <| nl, (by kernel_rfl)⟩
    · rw [if_neg hc1] at hm18
      obtain ⟨x33, hx33, hm18⟩ := bs hm18
      cases hm18
      exact ⟨_, sq z13 (oMv rfl rfl) <| sq z13 (oCa (xs := [.v false [.im 2 _]]) (vs := [(false, [.im 0 _])]) (v := .v false [.im 0 _]) (L_laws_b10Long hx30) (.inl rfl) rfl kF14_22 rfl (ppC rfl pp0) rfl rfl pb0 rfl rfl rfl) <| sq z13 (oMv rfl rfl) <| sgT z13 rfl rfl (byF Iff.rfl hc1) (oMv rfl rfl) <| sgT z13 rfl rfl (byF Iff.rfl hc1) (oCa (xs := [.v false [.im 2 _]]) (vs := [(false, [.im 0 _])]) (v := .v false [.im 0 _]) (L_laws_b10Long hx33) (.inl rfl) rfl kF14_22 rfl (ppC rfl pp0) rfl rfl pb0 rfl rfl rfl) <| sq z13 (oPkF rfl rfl (byF Iff.rfl hc1) rfl) <| nl, (by kernel_rfl)⟩
  · refine Unw.seq ?_
    by_cases hc2 : t_34_m1 = true
    · rw [if_pos hc2] at h
      refine Go.condT rfl (Iff.rfl.2 hc2) ?_
      refine Go.seq ?_
      refine Go.r0 c13 rfl rfl (sq z13 (oAsI rfl rfl) <| nl) ?_
      refine Unw.seq ?_
      refine Go.ret (Unw.ret ?_)
      cases h
      exact Fin_ret (fin_of rfl rF13 rfl (by kernel_rfl))
    · rw [if_neg hc2] at h
      refine Go.condF rfl (byF Iff.rfl hc2) ?_
      refine Go.skip ?_
      refine Unw.seq ?_
      refine Go.seq ?_
      obtain ⟨x37, hx37, h⟩ := bs h
      refine Go.r0 c13 rfl rfl (sq z13 (oMv rfl rfl) <| sq z13 (oCr (xs := [.v false [.im 2 _]]) (vs := [(false, [.own 37 0 0]), (false, [.im 0 _]), (false, [.im 0 _])]) (v := .tup [(false, [.own 37 0 0]), (false, [.im 0 _]), (false, [.im 0 _])]) (c := ⟨.sh, 0, _⟩) (cs := []) (L_spec_DrawBestGlueOrder hx37) (.inl rfl) rfl kF79_22 rfl (ppC rfl pp0) rfl rfl pb0 rfl rfl rfl) <| sq z13 (oMvT rfl rfl) <| sq z13 (oEx rfl rfl rfl) <| sq z13 (oEx rfl rfl rfl) <| sq z13 (oEx rfl rfl rfl) <| sq z13 (oAsO rfl rfl rfl rfl rfl) <| sq z13 (oAsI rfl rfl) <| sq z13 (oAsI rfl rfl) <| nl) ?_
      refine Unw.seq ?_
      refine Go.seq ?_
      obtain ⟨x45, hx45, h⟩ := bs h
      refine Go.r0 c13 rfl rfl (sq z13 (oMv rfl rfl) <| sq z13 (oMv rfl rfl) <| sq z13 (oMv rfl rfl) <| sq z13 (oCr (xs := [.v false [.own 5 0 0], .v false [.im 0 _], .v false [.im 0 _]]) (vs := [(false, [.own 45 0 0]), (false, [.im 0 _]), (false, [.im 0 _])]) (v := .tup [(false, [.own 45 0 0]), (false, [.im 0 _]), (false, [.im 0 _])]) (c := ⟨.sh, 0, _⟩) (cs := []) (L_impl_BestGlueOrder hx45) (.inl rfl) rfl kF56_81_2_2 rfl (ppC rfl (ppC rfl (ppC rfl pp0))) rfl rfl pb0 rfl rfl rfl) <| sq z13 (oMvT rfl rfl) <| sq z13 (oEx rfl rfl rfl) <| sq z13 (oEx rfl rfl rfl) <| sq z13 (oEx rfl rfl rfl) <| sq z13 (oAsO rfl rfl rfl rfl rfl) <| sq z13 (oAsI rfl rfl) <| sq z13 (oAsI rfl rfl) <| nl) ?_
      refine Unw.seq ?_
      refine Go.seq ?_
      obtain ⟨x52, hx52, h⟩ := bs h
      refine Go.r0 c13 rfl rfl (sq z13 (oMv rfl rfl) <| sq z13 (oMv rfl rfl) <| sq z13 (oCr (xs := [.v false [.own 5 0 0], .v false [.im 0 _]]) (vs := [(false, [.own 52 0 0]), (false, [.im 0 _]), (false, [.im 0 _])]) (v := .tup [(false, [.own 52 0 0]), (false, [.im 0 _]), (false, [.im 0 _])]) (c := ⟨.sh, 0, _⟩) (cs := []) (L_impl_LongestFirst hx52) (.inl rfl) rfl kF80_81_2 rfl (ppC rfl (ppC rfl pp0)) rfl rfl pb0 rfl rfl rfl) <| sq z13 (oMvT rfl rfl) <| sq z13 (oEx rfl rfl rfl) <| sq z13 (oEx rfl rfl rfl) <| sq z13 (oEx rfl rfl rfl) <| sq z13 (oAsO rfl rfl rfl rfl rfl) <| sq z13 (oAsI rfl rfl) <| sq z13 (oAsI rfl rfl) <| nl) ?_
      refine Unw.seq ?_
      refine Go.seq ?_
      refine Go.seq ?_
      refine Go.r0 c13 rfl rfl (sq z13 (oMv rfl rfl) <| sq z13 (oBi rfl rfl rfl rfl) <| nl) ?_
      refine Unw.seq ?_
      by_cases hc3 : x45.2.2 ≠ 0
      · rw [if_pos hc3] at h
        refine Go.condT rfl (iNe.2 hc3) ?_
        refine Go.seq ?_
        refine Go.rX c13 rfl rfl rfl (mk [(4, bv (((x45.1.length : Int) == 0) && (x45.2.1 == 0)))] []) ?_ ?_
        · by_cases hc4 : (x45.1.length : Int) = 0
          · exact ⟨_, sq z13 (oMv rfl rfl) <| sq z13 (oLnO rfl rfl uF27 rfl rfl rfl (fun e => nomatch e)) <| sq z13 (oBi rfl rfl rfl rfl) <| sq z13 (oMv rfl rfl) <| sgT z13 rfl rfl (iEq.2 hc4) (oMv rfl rfl) <| sgT z13 rfl rfl (iEq.2 hc4) (oBi rfl rfl rfl rfl) <| sq z13 (oPkT rfl rfl (iEq.2 hc4) rfl) <| sq z13 (oAsI rfl rfl) <| nl, (Eq.trans (b := (fun t_4_m7 : Bool => mk [(4, bv t_4_m7)] []) (x45.2.1 == 0)) (by kernel_rfl) (congrArg (fun t_4_m7 : Bool => mk [(4, bv t_4_m7)] []) (by first | rfl | (simp [(iEq.2 hc4)]; done) | (simp [(iEq.2 hc4)]; omega))))⟩
          · exact ⟨_, sq z13 (oMv rfl rfl) <| sq z13 (oLnO rfl rfl uF27 rfl rfl rfl (fun e => nomatch e)) <| sq z13 (oBi rfl rfl rfl rfl) <| sq z13 (oMv rfl rfl) <| sgF rfl rfl (byF iEq hc4) rfl <| sgF rfl rfl (byF iEq hc4) rfl <| sq z13 (oPkF rfl rfl (byF iEq hc4) rfl) <| sq z13 (oAsI rfl rfl) <| nl, (Eq.trans (b := (fun t_4_m7 : Bool => mk [(4, bv t_4_m7)] []) false) (by kernel_rfl) (congrArg (fun t_4_m7 : Bool => mk [(4, bv t_4_m7)] []) (by first | rfl | (simp [(byF iEq hc4)]; done) | (simp [(byF iEq hc4)]; omega))))⟩
        · refine Unw.seq ?_
          refine Go.ret (Unw.ret ?_)
          cases h
          exact Fin_ret (fin_of rfl rF13 rfl (by kernel_rfl))
      · rw [if_neg hc3] at h
        refine Go.condF rfl (byF iNe hc3) ?_
        refine Go.skip ?_
        refine Unw.seq ?_
        refine Go.seq ?_
        obtain ⟨x69, hx69, h⟩ := bs h
        refine Go.r0 c13 rfl rfl (sq z13 (oMv rfl rfl) <| sq z13 (oMv rfl rfl) <| sq z13 (oMv rfl rfl) <| sq z13 (oCa (xs := [.v false [.own 5 0 0], .v false [.own 8 0 0], .v false [.im 0 _]]) (vs := [(false, [.im 0 _]), (false, [.im 0 _])]) (v := .tup [(false, [.im 0 _]), (false, [.im 0 _])]) (L_impl_GlueEnd hx69) (.inl rfl) rfl kF81_81_27_2 rfl (ppC rfl (ppC rfl (ppC rfl pp0))) rfl rfl pb0 rfl rfl rfl) <| sq z13 (oMvT rfl rfl) <| sq z13 (oEx rfl rfl rfl) <| sq z13 (oEx rfl rfl rfl) <| sq z13 (oAsI rfl rfl) <| sq z13 (oAsI rfl rfl) <| nl) ?_
        refine Unw.seq ?_
        refine Go.seq ?_
        obtain ⟨x76, hx76, h⟩ := bs h
        refine Go.r0 c13 rfl rfl (sq z13 (oMv rfl rfl) <| sq z13 (oMv rfl rfl) <| sq z13 (oMv rfl rfl) <| sq z13 (oCa (xs := [.v false [.own 5 0 0], .v false [.own 11 0 0], .v false [.im 0 _]]) (vs := [(false, [.im 0 _]), (false, [.im 0 _])]) (v := .tup [(false, [.im 0 _]), (false, [.im 0 _])]) (L_impl_GlueEnd hx76) (.inl rfl) rfl kF81_81_27_2 rfl (ppC rfl (ppC rfl (ppC rfl pp0))) rfl rfl pb0 rfl rfl rfl) <| sq z13 (oMvT rfl rfl) <| sq z13 (oEx rfl rfl rfl) <| sq z13 (oEx rfl rfl rfl) <| sq z13 (oAsI rfl rfl) <| sq z13 (oAsI rfl rfl) <| nl) ?_
        refine Unw.seq ?_
        refine Go.seq ?_
        obtain ⟨x83, hx83, h⟩ := bs h
        refine Go.r0 c13 rfl rfl (sq z13 (oMv rfl rfl) <| sq z13 (oMv rfl rfl) <| sq z13 (oMv rfl rfl) <| sq z13 (oCa (xs := [.v false [.own 5 0 0], .v false [.own 8 0 0], .v false [.im 0 _]]) (vs := [(false, [.im 0 _]), (false, [.im 0 _])]) (v := .tup [(false, [.im 0 _]), (false, [.im 0 _])]) (L_impl_OpenWaste hx83) (.inl rfl) rfl kF82_81_27_2 rfl (ppC rfl (ppC rfl (ppC rfl pp0))) rfl rfl pb0 rfl rfl rfl) <| sq z13 (oMvT rfl rfl) <| sq z13 (oEx rfl rfl rfl) <| sq z13 (oEx rfl rfl rfl) <| sq z13 (oAsI rfl rfl) <| sq z13 (oAsI rfl rfl) <| nl) ?_
        refine Unw.seq ?_
        refine Go.seq ?_
        refine Go.seq ?_
        refine Go.rX c13 rfl rfl rfl (mk [(1, .v false [.im 2 (.row 1 (List.map (eK .u8) more_1))]), (118, bv ((x52.2.2 != 0) || ((x69.2 != 0) || ((x69.1 != x45.2.1) || ((x76.2 != 0) || ((x76.1 != x52.2.1) || ((decide (x45.2.1 > x52.2.1)) || ((x83.2 != 0) || (decide (x83.1 < 0))))))))))] []) ?_ ?_
        · by_cases hc5 : x52.2.2 ≠ 0
          · exact ⟨_, sq z13 (oMv rfl rfl) <| sq z13 (oBi rfl rfl rfl rfl) <| sq z13 (oMv rfl rfl) <| sgF rfl rfl (iNe.2 hc5) rfl <| sgF rfl rfl (iNe.2 hc5) rfl <| sq z13 (oPkT rfl rfl (iNe.2 hc5) rfl) <| sq z13 (oMv rfl rfl) <| sgF rfl rfl rfl rfl <| sgF rfl rfl rfl rfl <| sgF rfl rfl rfl rfl <| sq z13 (oPkT rfl rfl rfl rfl) <| sq z13 (oMv rfl rfl) <| sgF rfl rfl rfl rfl <| sgF rfl rfl rfl rfl <| sq z13 (oPkT rfl rfl rfl rfl) <| sq z13 (oMv rfl rfl) <| sgF rfl rfl rfl rfl <| sgF rfl rfl rfl rfl <| sgF rfl rfl rfl rfl <| sq z13 (oPkT rfl rfl rfl rfl) <| sq z13 (oMv rfl rfl) <| sgF rfl rfl rfl rfl <| sgF rfl rfl rfl rfl <| sgF rfl rfl rfl rfl <| sq z13 (oPkT rfl rfl rfl rfl) <| sq z13 (oMv rfl rfl) <| sgF rfl rfl rfl rfl <| sgF rfl rfl rfl rfl <| sq z13 (oPkT rfl rfl rfl rfl) <| sq z13 (oMv rfl rfl) <| sgF rfl rfl rfl rfl <| sgF rfl rfl rfl rfl <| sq z13 (oPkT rfl rfl rfl rfl) <| nl, (Eq.trans (b := (fun t_118_m11 : Bool => mk [(1, .v false [.im 2 (.row 1 (List.map (eK .u8) more_1))]), (118, bv t_118_m11)] []) true) (by kernel_rfl) (congrArg (fun t_118_m11 : Bool => mk [(1, .v false [.im 2 (.row 1 (List.map (eK .u8) more_1))]), (118, bv t_118_m11)] []) (by first | rfl | (simp [(iNe.2 hc5)]; done) | (simp [(iNe.2 hc5)]; omega))))⟩
          · by_cases hc6 : x69.2 ≠ 0
            · exact ⟨_, sq z13 (oMv rfl rfl) <| sq z13 (oBi rfl rfl rfl rfl) <| sq z13 (oMv rfl rfl) <| sgT z13 rfl rfl (byF iNe hc5) (oMv rfl rfl) <| sgT z13 rfl rfl (byF iNe hc5) (oBi rfl rfl rfl rfl) <| sq z13 (oPkF rfl rfl (byF iNe hc5) rfl) <| sq z13 (oMv rfl rfl) <| sgF rfl rfl (iNe.2 hc6) rfl <| sgF rfl rfl (iNe.2 hc6) rfl <| sgF rfl rfl (iNe.2 hc6) rfl <| sq z13 (oPkT rfl rfl (iNe.2 hc6) rfl) <| sq z13 (oMv rfl rfl) <| sgF rfl rfl rfl rfl <| sgF rfl rfl rfl rfl <| sq z13 (oPkT rfl rfl rfl rfl) <| sq z13 (oMv rfl rfl) <| sgF rfl rfl rfl rfl <| sgF rfl rfl rfl rfl <| sgF rfl rfl rfl rfl <| sq z13 (oPkT rfl rfl rfl rfl) <| sq z13 (oMv rfl rfl) <| sgF rfl rfl rfl rfl <| sgF rfl rfl rfl rfl <| sgF rfl rfl rfl rfl <| sq z13 (oPkT rfl rfl rfl rfl) <| sq z13 (oMv rfl rfl) <| sgF rfl rfl rfl rfl <| sgF rfl rfl rfl rfl <| sq z13 (oPkT rfl rfl rfl rfl) <| sq z13 (oMv rfl rfl) <| sgF rfl rfl rfl rfl <| sgF rfl rfl rfl rfl <| sq z13 (oPkT rfl rfl rfl rfl) <| nl, (Eq.trans (b := (fun t_118_m11 : Bool => mk [(1, .v false [.im 2 (.row 1 (List.map (eK .u8) more_1))]), (118, bv t_118_m11)] []) true) (by kernel_rfl) (congrArg (fun t_118_m11 : Bool => mk [(1, .v false [.im 2 (.row 1 (List.map (eK .u8) more_1))]), (118, bv t_118_m11)] []) (by first | rfl | (simp [(byF iNe hc5), (iNe.2 hc6)]; done) | (simp [(byF iNe hc5), (iNe.2 hc6)]; omega))))⟩
            · by_cases hc7 : x69.1 ≠ x45.2.1
              · exact ⟨_, sq z13 (oMv rfl rfl) <| sq z13 (oBi rfl rfl rfl rfl) <| sq z13 (oMv rfl rfl) <| sgT z13 rfl rfl (byF iNe hc5) (oMv rfl rfl) <| sgT z13 rfl rfl (byF iNe hc5) (oBi rfl rfl rfl rfl) <| sq z13 (oPkF rfl rfl (byF iNe hc5) rfl) <| sq z13 (oMv rfl rfl) <| sgT z13 rfl rfl (byF iNe hc6) (oMv rfl rfl) <| sgT z13 rfl rfl (byF iNe hc6) (oMv rfl rfl) <| sgT z13 rfl rfl (byF iNe hc6) (oBi rfl rfl rfl rfl) <| sq z13 (oPkF rfl rfl (byF iNe hc6) rfl) <| sq z13 (oMv rfl rfl) <| sgF rfl rfl (iNe.2 hc7) rfl <| sgF rfl rfl (iNe.2 hc7) rfl <| sq z13 (oPkT rfl rfl (iNe.2 hc7) rfl) <| sq z13 (oMv rfl rfl) <| sgF rfl rfl rfl rfl <| sgF rfl rfl rfl rfl <| sgF rfl rfl rfl rfl <| sq z13 (oPkT rfl rfl rfl rfl) <| sq z13 (oMv rfl rfl) <| sgF rfl rfl rfl rfl <| sgF rfl rfl rfl rfl <| sgF rfl rfl rfl rfl <| sq z13 (oPkT rfl rfl rfl rfl) <| sq z13 (oMv rfl rfl) <| sgF rfl rfl rfl rfl <| sgF rfl rfl rfl rfl <| sq z13 (oPkT rfl rfl rfl rfl) <| sq z13 (oMv rfl rfl) <| sgF rfl rfl rfl rfl <| sgF rfl rfl rfl rfl <| sq z13 (oPkT rfl rfl rfl rfl) <| nl, (Eq.trans (b := (fun t_118_m11 : Bool => mk [(1, .v false [.im 2 (.row 1 (List.map (eK .u8) more_1))]), (118, bv t_118_m11)] []) true) (by kernel_rfl) (congrArg (fun t_118_m11 : Bool => mk [(1, .v false [.im 2 (.row 1 (List.map (eK .u8) more_1))]), (118, bv t_118_m11)] []) (by first | rfl | (simp [(byF iNe hc5), (byF iNe hc6), (iNe.2 hc7)]; done) | (simp [(byF iNe hc5), (byF iNe hc6), (iNe.2 hc7)]; omega))))⟩
              · by_cases hc8 : x76.2 ≠ 0
                · exact ⟨_, sq z13 (oMv rfl rfl) <| sq z13 (oBi rfl rfl rfl rfl) <| sq z13 (oMv rfl rfl) <| sgT z13 rfl rfl (byF iNe hc5) (oMv rfl rfl) <| sgT z13 rfl rfl (byF iNe hc5) (oBi rfl rfl rfl rfl) <| sq z13 (oPkF rfl rfl (byF iNe hc5) rfl) <| sq z13 (oMv rfl rfl) <| sgT z13 rfl rfl (byF iNe hc6) (oMv rfl rfl) <| sgT z13 rfl rfl (byF iNe hc6) (oMv rfl rfl) <| sgT z13 rfl rfl (byF iNe hc6) (oBi rfl rfl rfl rfl) <| sq z13 (oPkF rfl rfl (byF iNe hc6) rfl) <| sq z13 (oMv rfl rfl) <| sgT z13 rfl rfl (byF iNe hc7) (oMv rfl rfl) <| sgT z13 rfl rfl (byF iNe hc7) (oBi rfl rfl rfl rfl) <| sq z13 (oPkF rfl rfl (byF iNe hc7) rfl) <| sq z13 (oMv rfl rfl) <| sgF rfl rfl (iNe.2 hc8) rfl <| sgF rfl rfl (iNe.2 hc8) rfl <| sgF rfl rfl (iNe.2 hc8) rfl <| sq z13 (oPkT rfl rfl (iNe.2 hc8) rfl) <| sq z13 (oMv rfl rfl) <| sgF rfl rfl rfl rfl <| sgF rfl rfl rfl rfl <| sgF rfl rfl rfl rfl <| sq z13 (oPkT rfl rfl rfl rfl) <| sq z13 (oMv rfl rfl) <| sgF rfl rfl rfl rfl <| sgF rfl rfl rfl rfl <| sq z13 (oPkT rfl rfl rfl rfl) <| sq z13 (oMv rfl rfl) <| sgF rfl rfl rfl rfl <| sgF rfl rfl rfl rfl <| sq z13 (oPkT rfl rfl rfl rfl) <| nl, (Eq.trans (b := (fun t_118_m11 : Bool => mk [(1, .v false [.im 2 (.row 1 (List.map (eK .u8) more_1))]), (118, bv t_118_m11)] []) true) (by kernel_rfl) (congrArg (fun t_118_m11 : Bool => mk [(1, .v false [.im 2 (.row 1 (List.map (eK .u8) more_1))]), (118, bv t_118_m11)] []) (by first | rfl | (simp [(byF iNe hc5), (byF iNe hc6), (byF iNe hc7), (iNe.2 hc8)]; done) | (simp [(byF iNe hc5), (byF iNe hc6), (byF iNe hc7), (iNe.2 hc8)]; omega))))⟩
                · by_cases hc9 : x76.1 ≠ x52.2.1
                  · exact ⟨_, sq z13 (oMv rfl rfl) <| sq z13 (oBi rfl rfl rfl rfl) <| sq z13 (oMv rfl rfl) <| sgT z13 rfl rfl (byF iNe hc5) (oMv rfl rfl) <| sgT z13 rfl rfl (byF iNe hc5) (oBi rfl rfl rfl rfl) <| sq z13 (oPkF rfl rfl (byF iNe hc5) rfl) <| sq z13 (oMv rfl rfl) <| sgT z13 rfl rfl (byF iNe hc6) (oMv rfl rfl) <| sgT z13 rfl rfl (byF iNe hc6) (oMv rfl rfl) <| sgT z13 rfl rfl (byF iNe hc6) (oBi rfl rfl rfl rfl) <| sq z13 (oPkF rfl rfl (byF iNe hc6) rfl) <| sq z13 (oMv rfl rfl) <| sgT z13 rfl rfl (byF iNe hc7) (oMv rfl rfl) <| sgT z13 rfl rfl (byF iNe hc7) (oBi rfl rfl rfl rfl) <| sq z13 (oPkF rfl rfl (byF iNe hc7) rfl) <| sq z13 (oMv rfl rfl) <| sgT z13 rfl rfl (byF iNe hc8) (oMv rfl rfl) <| sgT z13 rfl rfl (byF iNe hc8) (oMv rfl rfl) <| sgT z13 rfl rfl (byF iNe hc8) (oBi rfl rfl rfl rfl) <| sq z13 (oPkF rfl rfl (byF iNe hc8) rfl) <| sq z13 (oMv rfl rfl) <| sgF rfl rfl (iNe.2 hc9) rfl <| sgF rfl rfl (iNe.2 hc9) rfl <| sgF rfl rfl (iNe.2 hc9) rfl <| sq z13 (oPkT rfl rfl (iNe.2 hc9) rfl) <| sq z13 (oMv rfl rfl) <| sgF rfl rfl rfl rfl <| sgF rfl rfl rfl rfl <| sq z13 (oPkT rfl rfl rfl rfl) <| sq z13 (oMv rfl rfl) <| sgF rfl rfl rfl rfl <| sgF rfl rfl rfl rfl <| sq z13 (oPkT rfl rfl rfl rfl) <| nl, (Eq.trans (b := (fun t_118_m11 : Bool => mk [(1, .v false [.im 2 (.row 1 (List.map (eK .u8) more_1))]), (118, bv t_118_m11)] []) true) (by kernel_rfl) (congrArg (fun t_118_m11 : Bool => mk [(1, .v false [.im 2 (.row 1 (List.map (eK .u8) more_1))]), (118, bv t_118_m11)] []) (by first | rfl | (simp [(byF iNe hc5), (byF iNe hc6), (byF iNe hc7), (byF iNe hc8), (iNe.2 hc9)]; done) | (simp [(byF iNe hc5), (byF iNe hc6), (byF iNe hc7), (byF iNe hc8), (iNe.2 hc9)]; omega))))⟩
                  · by_cases hc10 : x45.2.1 > x52.2.1
                    · exact ⟨_, sq z13 (oMv rfl rfl) <| sq z13 (oBi rfl rfl rfl rfl) <| sq z13 (oMv rfl rfl) <| sgT z13 rfl rfl (byF iNe hc5) (oMv rfl rfl) <| sgT z13 rfl rfl (byF iNe hc5) (oBi rfl rfl rfl rfl) <| sq z13 (oPkF rfl rfl (byF iNe hc5) rfl) <| sq z13 (oMv rfl rfl) <| sgT z13 rfl rfl (byF iNe hc6) (oMv rfl rfl) <| sgT z13 rfl rfl (byF iNe hc6) (oMv rfl rfl) <| sgT z13 rfl rfl (byF iNe hc6) (oBi rfl rfl rfl rfl) <| sq z13 (oPkF rfl rfl (byF iNe hc6) rfl) <| sq z13 (oMv rfl rfl) <| sgT z13 rfl rfl (byF iNe hc7) (oMv rfl rfl) <| sgT z13 rfl rfl (byF iNe hc7) (oBi rfl rfl rfl rfl) <| sq z13 (oPkF rfl rfl (byF iNe hc7) rfl) <| sq z13 (oMv rfl rfl) <| sgT z13 rfl rfl (byF iNe hc8) (oMv rfl rfl) <| sgT z13 rfl rfl (byF iNe hc8) (oMv rfl rfl) <| sgT z13 rfl rfl (byF iNe hc8) (oBi rfl rfl rfl rfl) <| sq z13 (oPkF rfl rfl (byF iNe hc8) rfl) <| sq z13 (oMv rfl rfl) <| sgT z13 rfl rfl (byF iNe hc9) (oMv rfl rfl) <| sgT z13 rfl rfl (byF iNe hc9) (oMv rfl rfl) <| sgT z13 rfl rfl (byF iNe hc9) (oBi rfl rfl rfl rfl) <| sq z13 (oPkF rfl rfl (byF iNe hc9) rfl) <| sq z13 (oMv rfl rfl) <| sgF rfl rfl (iDec.2 hc10) rfl <| sgF rfl rfl (iDec.2 hc10) rfl <| sq z13 (oPkT rfl rfl (iDec.2 hc10) rfl) <| sq z13 (oMv rfl rfl) <| sgF rfl rfl rfl rfl <| sgF rfl rfl rfl rfl <| sq z13 (oPkT rfl rfl rfl rfl) <| nl, (Eq.trans (b := (fun t_118_m11 : Bool => mk [(1, .v false [.im 2 (.row 1 (List.map (eK .u8) more_1))]), (118, bv t_118_m11)] []) true) (by kernel_rfl) (congrArg (fun t_118_m11 : Bool => mk [(1, .v false [.im 2 (.row 1 (List.map (eK .u8) more_1))]), (118, bv t_118_m11)] []) (by first | rfl | (simp [(byF iNe hc5), (byF iNe hc6), (byF iNe hc7), (byF iNe hc8), (byF iNe hc9), (iDec.2 hc10)]; done) | (simp [(byF iNe hc5), (byF iNe hc6), (byF iNe hc7), (byF iNe hc8), (byF iNe hc9), (iDec.2 hc10)]; omega))))⟩
                    · by_cases hc11 : x83.2 ≠ 0
                      · exact ⟨_, sq z13 (oMv rfl rfl) <| sq z13 (oBi rfl rfl rfl rfl) <| sq z13 (oMv rfl rfl) <| sgT z13 rfl rfl (byF iNe hc5) (oMv rfl rfl) <| sgT z13 rfl rfl (byF iNe hc5) (oBi rfl rfl rfl rfl) <| sq z13 (oPkF rfl rfl (byF iNe hc5) rfl) <| sq z13 (oMv rfl rfl) <| sgT z13 rfl rfl (byF iNe hc6) (oMv rfl rfl) <| sgT z13 rfl rfl (byF iNe hc6) (oMv rfl rfl) <| sgT z13 rfl rfl (byF iNe hc6) (oBi rfl rfl rfl rfl) <| sq z13 (oPkF rfl rfl (byF iNe hc6) rfl) <| sq z13 (oMv rfl rfl) <| sgT z13 rfl rfl (byF iNe hc7) (oMv rfl rfl) <| sgT z13 rfl rfl (byF iNe hc7) (oBi rfl rfl rfl rfl) <| sq z13 (oPkF rfl rfl (byF iNe hc7) rfl) <| sq z13 (oMv rfl rfl) <| sgT z13 rfl rfl (byF iNe hc8) (oMv rfl rfl) <| sgT z13 rfl rfl (byF iNe hc8) (oMv rfl rfl) <| sgT z13 rfl rfl (byF iNe hc8) (oBi rfl rfl rfl rfl) <| sq z13 (oPkF rfl rfl (byF iNe hc8) rfl) <| sq z13 (oMv rfl rfl) <| sgT z13 rfl rfl (byF iNe hc9) (oMv rfl rfl) <| sgT z13 rfl rfl (byF iNe hc9) (oMv rfl rfl) <| sgT z13 rfl rfl (byF iNe hc9) (oBi rfl rfl rfl rfl) <| sq z13 (oPkF rfl rfl (byF iNe hc9) rfl) <| sq z13 (oMv rfl rfl) <| sgT z13 rfl rfl (byF iDec hc10) (oMv rfl rfl) <| sgT z13 rfl rfl (byF iDec hc10) (oBi rfl rfl rfl rfl) <| sq z13 (oPkF rfl rfl (byF iDec hc10) rfl) <| sq z13 (oMv rfl rfl) <| sgF rfl rfl (iNe.2 hc11) rfl <| sgF rfl rfl (iNe.2 hc11) rfl <| sq z13 (oPkT rfl rfl (iNe.2 hc11) rfl) <| nl, (Eq.trans (b := (fun t_118_m11 : Bool => mk [(1, .v false [.im 2 (.row 1 (List.map (eK .u8) more_1))]), (118, bv t_118_m11)] []) true) (by kernel_rfl) (congrArg (fun t_118_m11 : Bool => mk [(1, .v false [.im 2 (.row 1 (List.map (eK .u8) more_1))]), (118, bv t_118_m11)] []) (by first | rfl | (simp [(byF iNe hc5), (byF iNe hc6), (byF iNe hc7), (byF iNe hc8), (byF iNe hc9), (byF iDec hc10), (iNe.2 hc11)]; done) | (simp [(byF iNe hc5), (byF iNe hc6), (byF iNe hc7), (byF iNe hc8), (byF iNe hc9), (byF iDec hc10), (iNe.2 hc11)]; omega))))⟩
                      · exact ⟨_, sq z13 (oMv rfl rfl) <| sq z13 (oBi rfl rfl rfl rfl) <| sq z13 (oMv rfl rfl) <| sgT z13 rfl rfl (byF iNe hc5) (oMv rfl rfl) <| sgT z13 rfl rfl (byF iNe hc5) (oBi rfl rfl rfl rfl) <| sq z13 (oPkF rfl rfl (byF iNe hc5) rfl) <| sq z13 (oMv rfl rfl) <| sgT z13 rfl rfl (byF iNe hc6) (oMv rfl rfl) <| sgT z13 rfl rfl (byF iNe hc6) (oMv rfl rfl) <| sgT z13 rfl rfl (byF iNe hc6) (oBi rfl rfl rfl rfl) <| sq z13 (oPkF rfl rfl (byF iNe hc6) rfl) <| sq z13 (oMv rfl rfl) <| sgT z13 rfl rfl (byF iNe hc7) (oMv rfl rfl) <| sgT z13 rfl rfl (byF iNe hc7) (oBi rfl rfl rfl rfl) <| sq z13 (oPkF rfl rfl (byF iNe hc7) rfl) <| sq z13 (oMv rfl rfl) <| sgT z13 rfl rfl (byF iNe hc8) (oMv rfl rfl) <| sgT z13 rfl rfl (byF iNe hc8) (oMv rfl rfl) <| sgT z13 rfl rfl (byF iNe hc8) (oBi rfl rfl rfl rfl) <| sq z13 (oPkF rfl rfl (byF iNe hc8) rfl) <| sq z13 (oMv rfl rfl) <| sgT z13 rfl rfl (byF iNe hc9) (oMv rfl rfl) <| sgT z13 rfl rfl (byF iNe hc9) (oMv rfl rfl) <| sgT z13 rfl rfl (byF iNe hc9) (oBi rfl rfl rfl rfl) <| sq z13 (oPkF rfl rfl (byF iNe hc9) rfl) <| sq z13 (oMv rfl rfl) <| sgT z13 rfl rfl (byF iDec hc10) (oMv rfl rfl) <| sgT z13 rfl rfl (byF iDec hc10) (oBi rfl rfl rfl rfl) <| sq z13 (oPkF rfl rfl (byF iDec hc10) rfl) <| sq z13 (oMv rfl rfl) <| sgT z13 rfl rfl (byF iNe hc11) (oMv rfl rfl) <| sgT z13 rfl rfl (byF iNe hc11) (oBi rfl rfl rfl rfl) <| sq z13 (oPkF rfl rfl (byF iNe hc11) rfl) <| nl, (Eq.trans (b := (fun t_118_m11 : Bool => mk [(1, .v false [.im 2 (.row 1 (List.map (eK .u8) more_1))]), (118, bv t_118_m11)] []) (decide (x83.1 < 0))) (by kernel_rfl) (congrArg (fun t_118_m11 : Bool => mk [(1, .v false [.im 2 (.row 1 (List.map (eK .u8) more_1))]), (118, bv t_118_m11)] []) (by first | rfl | (simp [(byF iNe hc5), (byF iNe hc6), (byF iNe hc7), (byF iNe hc8), (byF iNe hc9), (byF iDec hc10), (byF iNe hc11)]; done) | (simp [(byF iNe hc5), (byF iNe hc6), (byF iNe hc7), (byF iNe hc8), (byF iNe hc9), (byF iDec hc10), (byF iNe hc11)]; omega))))⟩
        · refine Unw.seq ?_
          by_cases hc12 : (x52.2.2 ≠ 0 ∨ (x69.2 ≠ 0 ∨ (x69.1 ≠ x45.2.1 ∨ (x76.2 ≠ 0 ∨ (x76.1 ≠ x52.2.1 ∨ (x45.2.1 > x52.2.1 ∨ (x83.2 ≠ 0 ∨ x83.1 < 0)))))))
          · rw [if_pos hc12] at h
            refine Go.condT rfl ((iOr iNe (iOr iNe (iOr iNe (iOr iNe (iOr iNe (iOr iDec (iOr iNe iDec))))))).2 hc12) ?_
            refine Go.seq ?_
            refine Go.r0 c13 rfl rfl (sq z13 (oAsI rfl rfl) <| nl) ?_
            refine Unw.seq ?_
            refine Go.ret (Unw.ret ?_)
            cases h
            exact Fin_ret (fin_of rfl rF13 rfl (by kernel_rfl))
          · rw [if_neg hc12] at h
            refine Go.condF rfl (byF (iOr iNe (iOr iNe (iOr iNe (iOr iNe (iOr iNe (iOr iDec (iOr iNe iDec))))))) hc12) ?_
            refine Go.skip ?_
            refine Unw.seq ?_
            refine Go.seq ?_
            obtain ⟨x121, hx121, h⟩ := bs h
            refine Go.r0 c13 rfl rfl (sq z13 (oMv rfl rfl) <| sq z13 (oCr (xs := [.v false [.im 2 _]]) (vs := [(false, [.own 121 0 0]), (false, [.own 121 0 1]), (false, [.im 0 _])]) (v := .tup [(false, [.own 121 0 0]), (false, [.own 121 0 1]), (false, [.im 0 _])]) (c := ⟨.sh, 0, _⟩) (cs := [⟨.sh, 0, _⟩]) (L_spec_DrawPressesFor hx121) (.inl rfl) rfl kF83_22 rfl (ppC rfl pp0) rfl rfl pb0 rfl rfl rfl) <| sq z13 (oMvT rfl rfl) <| sq z13 (oEx rfl rfl rfl) <| sq z13 (oEx rfl rfl rfl) <| sq z13 (oEx rfl rfl rfl) <| sq z13 (oAsO rfl rfl rfl rfl rfl) <| sq z13 (oAsO rfl rfl rfl rfl rfl) <| sq z13 (oAsI rfl rfl) <| nl) ?_
            refine Unw.seq ?_
            refine Go.seq ?_
            obtain ⟨x129, hx129, h⟩ := bs h
            refine Go.r0 c13 rfl rfl (sq z13 (oMv rfl rfl) <| sq z13 (oMv rfl rfl) <| sq z13 (oMv rfl rfl) <| sq z13 (oCa (xs := [.v false [.own 20 0 0], .v false [.own 21 0 0], .v false [.im 0 _]]) (vs := [(false, [.im 0 _]), (false, [.im 0 _])]) (v := .tup [(false, [.im 0 _]), (false, [.im 0 _])]) (L_impl_PressesFor hx129) (.inl rfl) rfl kF84_81_27_2 rfl (ppC rfl (ppC rfl (ppC rfl pp0))) rfl rfl pb0 rfl rfl rfl) <| sq z13 (oMvT rfl rfl) <| sq z13 (oEx rfl rfl rfl) <| sq z13 (oEx rfl rfl rfl) <| sq z13 (oAsI rfl rfl) <| sq z13 (oAsI rfl rfl) <| nl) ?_
            refine Unw.seq ?_
            refine Go.seq ?_
            refine Go.seq ?_
            refine Go.r0 c13 rfl rfl (sq z13 (oMv rfl rfl) <| sq z13 (oBi rfl rfl rfl rfl) <| nl) ?_
            refine Unw.seq ?_
            by_cases hc13 : x129.2 ≠ 0
            · rw [if_pos hc13] at h
              refine Go.condT rfl (iNe.2 hc13) ?_
              refine Go.seq ?_
              refine Go.r0 c13 rfl rfl (sq z13 (oMv rfl rfl) <| sq z13 (oBi rfl rfl rfl rfl) <| sq z13 (oAsI rfl rfl) <| nl) ?_
              refine Unw.seq ?_
              refine Go.ret (Unw.ret ?_)
              cases h
              exact Fin_ret (fin_of rfl rF13 rfl (by kernel_rfl))
            · rw [if_neg hc13] at h
              refine Go.condF rfl (byF iNe hc13) ?_
              refine Go.skip ?_
              refine Unw.seq ?_
              refine Go.seq ?_
              obtain ⟨x140, hx140, h⟩ := bs h
              refine Go.r0 c13 rfl rfl (sq z13 (oMv rfl rfl) <| sq z13 (oMv rfl rfl) <| sq z13 (oMv rfl rfl) <| sq z13 (oCa (xs := [.v false [.own 20 0 0], .v false [.own 21 0 0], .v false [.im 0 _]]) (vs := [(false, [.im 0 _]), (false, [.im 0 _])]) (v := .tup [(false, [.im 0 _]), (false, [.im 0 _])]) (L_impl_GlueEnd hx140) (.inl rfl) rfl kF81_81_27_2 rfl (ppC rfl (ppC rfl (ppC rfl pp0))) rfl rfl pb0 rfl rfl rfl) <| sq z13 (oMvT rfl rfl) <| sq z13 (oEx rfl rfl rfl) <| sq z13 (oEx rfl rfl rfl) <| sq z13 (oAsI rfl rfl) <| sq z13 (oAsI rfl rfl) <| nl) ?_
              refine Unw.seq ?_
              refine Go.seq ?_
              refine Go.seq ?_
              refine Go.rX c13 rfl rfl rfl (mk [(20, .v false [.own 20 0 0]), (21, .v false [.own 21 0 0]), (22, iv x121.2.2), (23, iv x129.1), (149, bv ((x140.2 != 0) || (decide (x140.1 > x121.2.2))))] [(20, some ⟨0, 0, false, false, false, false, [⟨.sh, 0, 0, .row 4 (List.map e_S_Bond x121.1)⟩]⟩), (21, some ⟨0, 0, false, false, false, false, [⟨.sh, 0, 0, .row 1 (List.map eI x121.2.1)⟩]⟩)]) ?_ ?_
              · by_cases hc14 : x140.2 ≠ 0
                · exact ⟨_, sq z13 (oMv rfl rfl) <| sq z13 (oBi rfl rfl rfl rfl) <| sq z13 (oMv rfl rfl) <| sgF rfl rfl (iNe.2 hc14) rfl <| sgF rfl rfl (iNe.2 hc14) rfl <| sgF rfl rfl (iNe.2 hc14) rfl <| sq z13 (oPkT rfl rfl (iNe.2 hc14) rfl) <| nl, (Eq.trans (b := (fun t_149_m18 : Bool => mk [(20, .v false [.own 20 0 0]), (21, .v false [.own 21 0 0]), (22, iv x121.2.2), (23, iv x129.1), (149, bv t_149_m18)] [(20, some ⟨0, 0, false, false, false, false, [⟨.sh, 0, 0, .row 4 (List.map e_S_Bond x121.1)⟩]⟩), (21, some ⟨0, 0, false, false, false, false, [⟨.sh, 0, 0, .row 1 (List.map eI x121.2.1)⟩]⟩)]) true) (by kernel_rfl) (congrArg (fun t_149_m18 : Bool => mk [(20, .v false [.own 20 0 0]), (21, .v false [.own 21 0 0]), (22, iv x121.2.2), (23, iv x129.1), (149, bv t_149_m18)] [(20, some ⟨0, 0, false, false, false, false, [⟨.sh, 0, 0, .row 4 (List.map e_S_Bond x121.1)⟩]⟩), (21, some ⟨0, 0, false, false, false, false, [⟨.sh, 0, 0, .row 1 (List.map eI x121.2.1)⟩]⟩)]) (by first | rfl | (simp [(iNe.2 hc14)]; done) | (simp [(iNe.2 hc14)]; omega))))⟩
                · exact ⟨_, sq z13 (oMv rfl rfl) <| sq z13 (oBi rfl rfl rfl rfl) <| sq z13 (oMv rfl rfl) <| sgT z13 rfl rfl (byF iNe hc14) (oMv rfl rfl) <| sgT z13 rfl rfl (byF iNe hc14) (oMv rfl rfl) <| sgT z13 rfl rfl (byF iNe hc14) (oBi rfl rfl rfl rfl) <| sq z13 (oPkF rfl rfl (byF iNe hc14) rfl) <| nl, (Eq.trans (b := (fun t_149_m18 : Bool => mk [(20, .v false [.own 20 0 0]), (21, .v false [.own 21 0 0]), (22, iv x121.2.2), (23, iv x129.1), (149, bv t_149_m18)] [(20, some ⟨0, 0, false, false, false, false, [⟨.sh, 0, 0, .row 4 (List.map e_S_Bond x121.1)⟩]⟩), (21, some ⟨0, 0, false, false, false, false, [⟨.sh, 0, 0, .row 1 (List.map eI x121.2.1)⟩]⟩)]) (decide (x140.1 > x121.2.2))) (by kernel_rfl) (congrArg (fun t_149_m18 : Bool => mk [(20, .v false [.own 20 0 0]), (21, .v false [.own 21 0 0]), (22, iv x121.2.2), (23, iv x129.1), (149, bv t_149_m18)] [(20, some ⟨0, 0, false, false, false, false, [⟨.sh, 0, 0, .row 4 (List.map e_S_Bond x121.1)⟩]⟩), (21, some ⟨0, 0, false, false, false, false, [⟨.sh, 0, 0, .row 1 (List.map eI x121.2.1)⟩]⟩)]) (by first | rfl | (simp [(byF iNe hc14)]; done) | (simp [(byF iNe hc14)]; omega))))⟩
              · refine Unw.seq ?_
                by_cases hc15 : (x140.2 ≠ 0 ∨ x140.1 > x121.2.2)
                · rw [if_pos hc15] at h
                  refine Go.condT rfl ((iOr iNe iDec).2 hc15) ?_
                  refine Go.seq ?_
                  refine Go.r0 c13 rfl rfl (sq z13 (oAsI rfl rfl) <| nl) ?_
                  refine Unw.seq ?_
                  refine Go.ret (Unw.ret ?_)
                  cases h
                  exact Fin_ret (fin_of rfl rF13 rfl (by kernel_rfl))
                · rw [if_neg hc15] at h
                  refine Go.condF rfl (byF (iOr iNe iDec) hc15) ?_
                  refine Go.skip ?_
                  refine Unw.seq ?_
                  refine Go.seq ?_
                  refine Go.seq ?_
                  refine Go.r0 c13 rfl rfl (sq z13 (oMv rfl rfl) <| sq z13 (oBi rfl rfl rfl rfl) <| nl) ?_
                  refine Unw.seq ?_
                  by_cases hc16 : x129.1 = 1
                  · rw [if_pos hc16] at h
                    refine Go.condT rfl (iEq.2 hc16) ?_
                    refine Go.seq ?_
                    refine Go.r0 c13 rfl rfl (sq z13 (oAsI rfl rfl) <| nl) ?_
                    refine Unw.seq ?_
                    refine Go.ret (Unw.ret ?_)
                    cases h
                    exact Fin_ret (fin_of rfl rF13 rfl (by kernel_rfl))
                  · rw [if_neg hc16] at h
                    refine Go.condF rfl (byF iEq hc16) ?_
                    refine Go.skip ?_
                    refine Unw.seq ?_
                    refine Go.seq ?_
                    obtain ⟨x157, hx157, h⟩ := bs h
                    refine Go.r0 c13 rfl rfl (sq z13 (oMv rfl rfl) <| sq z13 (oMv rfl rfl) <| sq z13 (oMv rfl rfl) <| sq z13 (oBi rfl rfl rfl rfl) <| sq z13 (oCa (xs := [.v false [.own 20 0 0], .v false [.own 21 0 0], .v false [.im 0 _]]) (vs := [(false, [.im 0 _]), (false, [.im 0 _])]) (v := .tup [(false, [.im 0 _]), (false, [.im 0 _])]) (L_impl_GlueEnd hx157) (.inl rfl) rfl kF81_81_27_2 rfl (ppC rfl (ppC rfl (ppC rfl pp0))) rfl rfl pb0 rfl rfl rfl) <| sq z13 (oMvT rfl rfl) <| sq z13 (oEx rfl rfl rfl) <| sq z13 (oEx rfl rfl rfl) <| sq z13 (oAsI rfl rfl) <| sq z13 (oAsI rfl rfl) <| nl) ?_
                    refine Unw.seq ?_
                    refine Go.seq ?_
                    refine Go.rX c13 rfl rfl rfl (mk [(4, bv ((x157.2 == 0) && (decide (x157.1 > x121.2.2))))] []) ?_ ?_
                    · by_cases hc17 : x157.2 = 0
                      · exact ⟨_, sq z13 (oMv rfl rfl) <| sq z13 (oBi rfl rfl rfl rfl) <| sq z13 (oMv rfl rfl) <| sgT z13 rfl rfl (iEq.2 hc17) (oMv rfl rfl) <| sgT z13 rfl rfl (iEq.2 hc17) (oMv rfl rfl) <| sgT z13 rfl rfl (iEq.2 hc17) (oBi rfl rfl rfl rfl) <| sq z13 (oPkT rfl rfl (iEq.2 hc17) rfl) <| sq z13 (oAsI rfl rfl) <| nl, (Eq.trans (b := (fun t_4_m23 : Bool => mk [(4, bv t_4_m23)] []) (decide (x157.1 > x121.2.2))) (by kernel_rfl) (congrArg (fun t_4_m23 : Bool => mk [(4, bv t_4_m23)] []) (by first | rfl | (simp [(iEq.2 hc17)]; done) | (simp [(iEq.2 hc17)]; omega))))⟩
                      · exact ⟨_, sq z13 (oMv rfl rfl) <| sq z13 (oBi rfl rfl rfl rfl) <| sq z13 (oMv rfl rfl) <| sgF rfl rfl (byF iEq hc17) rfl <| sgF rfl rfl (byF iEq hc17) rfl <| sgF rfl rfl (byF iEq hc17) rfl <| sq z13 (oPkF rfl rfl (byF iEq hc17) rfl) <| sq z13 (oAsI rfl rfl) <| nl, (Eq.trans (b := (fun t_4_m23 : Bool => mk [(4, bv t_4_m23)] []) false) (by kernel_rfl) (congrArg (fun t_4_m23 : Bool => mk [(4, bv t_4_m23)] []) (by first | rfl | (simp [(byF iEq hc17)]; done) | (simp [(byF iEq hc17)]; omega))))⟩
                    · refine Unw.seq ?_
                      refine Go.ret (Unw.ret ?_)
                      cases h
                      exact Fin_ret (fin_of rfl rF13 rfl (by kernel_rfl))
end
end Go.Proofs.Ytigjhjlkdamncaa
