/- The machine answers, at each function of the program that is reached, what its plain function answers: a further part. Conditions: none. -/
import Derived.Test.YtigjhjlkdamncaaTbnLa
namespace Go.Proofs.Ytigjhjlkdamncaa
open Go Go.Sim Go.Pw Go.Proofs
set_option linter.unusedVariables false
set_option linter.unusedSimpArgs false
set_option maxRecDepth 100000
set_option maxHeartbeats 4000000
noncomputable section

theorem L_slices_symMergeCmpFunc_int_170_F {self : ((List Int) × Int × Int × Int × (Int → Int → Option Int)) → Option (List Int)} {fc4_0_0 : (List Int)} (ih : ∀ {data_0 : (List Int)} {a_1 : Int} {m_2 : Int} {b_3 : Int} {r : (List Int)}, self (data_0, a_1, m_2, b_3, (fun b0 b1 => impl_DecreasingBlades_c1 b0 b1 fc4_0_0)) = some r → FL Try.prog cfg 273 [.ow 1 (List.map eI data_0), .im 2 false [.sc (.int .i64 a_1)], .im 2 false [.sc (.int .i64 m_2)], .im 2 false [.sc (.int .i64 b_3)], .im 2 false [.clo 170 [.cp [.row 1 (List.map eI fc4_0_0)] 0]]] = some ([], [.ow 1 (List.map eI r)])) {data_0 : (List Int)} {a_1 : Int} {m_2 : Int} {b_3 : Int} {r : (List Int)} (h : slices_symMergeCmpFunc_int_F self data_0 a_1 m_2 b_3 (fun b0 b1 => impl_DecreasingBlades_c1 b0 b1 fc4_0_0) = some r) : FL Try.prog cfg 273 [.ow 1 (List.map eI data_0), .im 2 false [.sc (.int .i64 a_1)], .im 2 false [.sc (.int .i64 m_2)], .im 2 false [.sc (.int .i64 b_3)], .im 2 false [.clo 170 [.cp [.row 1 (List.map eI fc4_0_0)] 0]]] = some ([], [.ow 1 (List.map eI r)]) := by
  unfold slices_symMergeCmpFunc_int_F at h
  refine FL_goS (A := [(0, .v false [.own 0 0 0]), (1, .v false [.im 2 (.sc (.int .i64 a_1))]), (2, .v false [.im 2 (.sc (.int .i64 m_2))]), (3, .v false [.im 2 (.sc (.int .i64 b_3))]), (4, .v false [.im 2 (.clo 170 [.cp [.row 1 (List.map eI fc4_0_0)] 0])])]) (B := [(0, some ⟨0, 0, true, false, false, false, [⟨.sh, 0, 0, .row 1 (List.map eI data_0)⟩]⟩), (1, none), (2, none), (3, none), (4, none)]) (nt := 220) rfl rfl Try.func273 rfl rfl rfl rfl ?_
  refine Go.seq ?_
  refine Go.seq ?_
  refine Go.r0 c273 rfl rfl (sq z273 (oMv rfl rfl) <| sq z273 (oMv rfl rfl) <| sq z273 (oBi rfl rfl rfl rfl) <| sq z273 (oBi rfl rfl rfl rfl) <| nl) ?_
  refine Unw.seq ?_
  by_cases hc1 : (w64 (m_2 - a_1)) = 1
  · rw [if_pos hc1] at h
    refine Go.condT rfl (iEq.2 hc1) ?_
    refine Go.seq ?_
    refine Go.r0 c273 rfl rfl (sq z273 (oMv rfl rfl) <| sq z273 (oAsI rfl rfl) <| nl) ?_
    refine Unw.seq ?_
    refine Go.seq ?_
    refine Go.r0 c273 rfl rfl (sq z273 (oMv rfl rfl) <| sq z273 (oAsI rfl rfl) <| nl) ?_
    refine Unw.seq ?_
    refine Go.seq ?_
    refine Go.block ?_
    obtain ⟨o, hl, h⟩ := bs h
    refine Go.lp c273 rfl _ (fun (s : (Int × Int)) => match s with | (i_10_l3, j_11_l3) => mk [(0, .v false [.own 0 0 0]), (1, iv a_1), (4, .v false [.im 2 (.clo 170 [.cp [.row 1 (List.map eI fc4_0_0)] 0])]), (10, iv i_10_l3), (11, iv j_11_l3)] [(0, some ⟨0, 0, true, false, false, false, [⟨.sh, 0, 0, .row 1 (List.map eI data_0)⟩]⟩)]) (fun (i_10_e0_3 : Int) (p : Ex × St) => p.1 = .exit 0 ∧ p.2.norm ([0, 1, 10], [0]) = mk [(0, .v false [.own 0 0 0]), (1, iv a_1), (10, iv i_10_e0_3)] [(0, some ⟨0, 0, true, false, false, false, [⟨.sh, 0, 0, .row 1 (List.map eI data_0)⟩]⟩)]) hl (by kernel_rfl) ?_ ?_ ?_
    · intro o p hp e
      exact nomatch (hp.1.symm.trans e)
    · rintro ⟨i_10_l3, j_11_l3⟩ o h
      unfold slices_symMergeCmpFunc_int_l3 at h
      dsimp only at h
      refine Go.seq ?_
      refine Go.seq ?_
      refine Go.r0 c273 rfl rfl (sq z273 (oMv rfl rfl) <| sq z273 (oMv rfl rfl) <| sq z273 (oBi rfl rfl rfl rfl) <| nl) ?_
      refine Unw.seq ?_
      by_cases hc9 : i_10_l3 < j_11_l3
      · rw [if_pos hc9] at h
        refine Go.condT rfl (iDec.2 hc9) ?_
        refine Go.skip ?_
        refine Unw.seq ?_
        refine Go.block ?_
        refine Go.seq ?_
        obtain ⟨x38, hx38, h⟩ := bs h
        refine Go.r0 c273 rfl rfl (sq z273 (oMv rfl rfl) <| sq z273 (oMv rfl rfl) <| sq z273 (oBi rfl rfl rfl rfl) <| sq z273 (oCvI rfl uF3 uF364 rfl) <| sq z273 (oShr rfl hx38 rfl rfl) <| sq z273 (oCvI rfl uF364 uF3 rfl) <| sq z273 (oAsI rfl rfl) <| nl) ?_
        refine Unw.seq ?_
        refine Go.seq ?_
        obtain ⟨x43, hx43, h⟩ := bs h
        obtain ⟨x47, hx47, h⟩ := bs h
        obtain ⟨x49, hx49, h⟩ := bs h
        refine Go.dr c273 rfl rfl rfl rfl (mk [(0, .v false [.own 0 0 0]), (1, iv a_1), (4, .v false [.im 2 (.clo 170 [.cp [.row 1 (List.map eI fc4_0_0)] 0])]), (10, iv i_10_l3), (11, iv j_11_l3), (12, iv (w64 (x38))), (50, bv (decide (x49 < 0)))] [(0, some ⟨0, 0, true, false, false, false, [⟨.sh, 0, 0, .row 1 (List.map eI data_0)⟩]⟩)]) (sT rfl (dN z273 rfl (oMv rfl rfl)) <| sT rfl (dN z273 rfl (oMv rfl rfl)) <| sT rfl (dN z273 rfl (oMv rfl rfl)) <| sT rfl (dN z273 rfl (oIAO rfl hx43 sF267 rfl rfl rfl rfl)) <| sT rfl (dN z273 rfl (oLdE (cs := [.im 0 _]) rfl tF3 rfl rfl rfl (fun e => nomatch e) (rd_get hx43) rfl rfl)) <| sT rfl (dN z273 rfl (oMv rfl rfl)) <| sT rfl (dN z273 rfl (oMv rfl rfl)) <| sT rfl (dN z273 rfl (oIAO rfl hx47 sF267 rfl rfl rfl rfl)) <| sT rfl (dN z273 rfl (oLdE (cs := [.im 0 _]) rfl tF3 rfl rfl rfl (fun e => nomatch e) (rd_get hx47) rfl rfl)) <| sS (dN z273 rfl (oCa (xs := [.v false [.im 0 _], .v false [.im 0 _], .v false [.im 2 _]]) (vs := [(false, [.im 0 _])]) (v := .v false [.im 0 _]) (L_impl_DecreasingBlades_c1 hx49) (.inr ⟨_, _, rfl, rfl⟩) rfl kF170_3_3_0 rfl (ppC rfl (ppC rfl (ppC rfl pp0))) rfl rfl pb0 rfl rfl rfl)) trivial (sT rfl (dN z273 rfl (oBi rfl rfl rfl rfl)) <| sD (by kernel_rfl))) ?_
        refine Unw.seq ?_
        by_cases hc10 : x49 < 0
        · rw [if_pos hc10] at h
          refine Go.condT rfl (iDec.2 hc10) ?_
          refine Go.r0 c273 rfl rfl (sq z273 (oMv rfl rfl) <| sq z273 (oBi rfl rfl rfl rfl) <| sq z273 (oAsI rfl rfl) <| nl) ?_
          refine Unw.blk ?_
          refine Unw.nil ?_
          cases h
          exact ⟨rfl, (by kernel_rfl)⟩
        · rw [if_neg hc10] at h
          refine Go.condF rfl (byF iDec hc10) ?_
          refine Go.r0 c273 rfl rfl (sq z273 (oMv rfl rfl) <| sq z273 (oAsI rfl rfl) <| nl) ?_
          refine Unw.blk ?_
          refine Unw.nil ?_
          cases h
          exact ⟨rfl, (by kernel_rfl)⟩
      · rw [if_neg hc9] at h
        refine Go.condF rfl (byF iDec hc9) ?_
        refine Go.exit ?_
        refine Unw.seqx ?_
        refine Unw.nil ?_
        cases h
        exact ⟨rfl, (by kernel_rfl)⟩
    · rintro ⟨e, st⟩ hp
      obtain ⟨i_10_e0_3, rfl⟩ : ∃ y, y = o := ⟨o, rfl⟩
      obtain ⟨he, hst⟩ := hp
      obtain rfl : e = .exit 0 := he
      refine Unw.blkx ?_
      refine Unw.seq ?_
      refine Go.seq ?_
      refine Go.seq ?_
      refine Go.r1 c273 rfl rfl hst (sq z273 (oMv rfl rfl) <| sq z273 (oAsI rfl rfl) <| nl) ?_
      refine Unw.seq ?_
      refine Go.block ?_
      obtain ⟨o, hl, h⟩ := bs h
      refine Go.lp c273 rfl _ (fun (s : (Int × (List Int))) => match s with | (k_13_l9, data_o0_l9) => mk [(0, .v false [.own 0 0 0]), (10, iv i_10_e0_3), (13, iv k_13_l9)] [(0, some ⟨0, 0, true, false, false, false, [⟨.sh, 0, 0, .row 1 (List.map eI data_o0_l9)⟩]⟩)]) (fun (r2 : (List Int)) (p : Ex × St) => p.1 = .exit 2 ∧ fin Try.prog cfg 273 Try.f273 [.ow 1 (List.map eI data_0), .im 2 false [.sc (.int .i64 a_1)], .im 2 false [.sc (.int .i64 m_2)], .im 2 false [.sc (.int .i64 b_3)], .im 2 false [.clo 170 [.cp [.row 1 (List.map eI fc4_0_0)] 0]]] p.2 = some ([], [.ow 1 (List.map eI r2)])) hl (by kernel_rfl) ?_ ?_ ?_
      · intro o p hp e
        exact nomatch (hp.1.symm.trans e)
      · rintro ⟨k_13_l9, data_o0_l9⟩ o h
        unfold slices_symMergeCmpFunc_int_l9 at h
        dsimp only at h
        refine Go.seq ?_
        refine Go.seq ?_
        refine Go.r0 c273 rfl rfl (sq z273 (oMv rfl rfl) <| sq z273 (oMv rfl rfl) <| sq z273 (oBi rfl rfl rfl rfl) <| sq z273 (oBi rfl rfl rfl rfl) <| nl) ?_
        refine Unw.seq ?_
        by_cases hc8 : k_13_l9 < (w64 (i_10_e0_3 - 1))
        · rw [if_pos hc8] at h
          refine Go.condT rfl (iDec.2 hc8) ?_
          refine Go.skip ?_
          refine Unw.seq ?_
          refine Go.seq ?_
          refine Go.block ?_
          obtain ⟨x69, hx69, h⟩ := bs h
          obtain ⟨x73, hx73, h⟩ := bs h
          obtain ⟨x75, hx75, h⟩ := bs h
          obtain ⟨x76, hx76, h⟩ := bs h
          refine Go.dr c273 rfl rfl rfl rfl (mk [(0, .v false [.own 0 0 0]), (10, iv i_10_e0_3), (13, iv k_13_l9)] [(0, some ⟨0, 0, true, false, false, false, [⟨.sh, 0, 0, .row 1 (List.map eI ((data_o0_l9.set k_13_l9.toNat x69).set ((w64 (k_13_l9 + 1)).toNat) x73))⟩]⟩)]) (sT rfl (dN z273 rfl (oMv rfl rfl)) <| sT rfl (dN z273 rfl (oMv rfl rfl)) <| sT rfl (dN z273 rfl (oMv rfl rfl)) <| sT rfl (dN z273 rfl (oMv rfl rfl)) <| sT rfl (dN z273 rfl (oBi rfl rfl rfl rfl)) <| sT rfl (dN z273 rfl (oMv rfl rfl)) <| sT rfl (dN z273 rfl (oMv rfl rfl)) <| sT rfl (dN z273 rfl (oBi rfl rfl rfl rfl)) <| sT rfl (dN z273 rfl (oIAO rfl hx69 sF267 rfl rfl rfl rfl)) <| sT rfl (dN z273 rfl (oLdE (cs := [.im 0 _]) rfl tF3 rfl rfl rfl (fun e => nomatch e) (rd_get hx69) rfl rfl)) <| sT rfl (dN z273 rfl (oMv rfl rfl)) <| sT rfl (dN z273 rfl (oMv rfl rfl)) <| sT rfl (dN z273 rfl (oIAO rfl hx73 sF267 rfl rfl rfl rfl)) <| sT rfl (dN z273 rfl (oLdE (cs := [.im 0 _]) rfl tF3 rfl rfl rfl (fun e => nomatch e) (rd_get hx73) rfl rfl)) <| sT rfl (dN z273 rfl (oIAO rfl hx75 sF267 rfl rfl rfl rfl)) <| sS (dN z273 rfl (oStE (v' := x69) tF3 rfl rfl rfl (fxI fx0) rfl rfl (rd_get hx75) rfl)) trivial (sT rfl (dN z273 rfl (oIAO rfl hx76 sF267 rfl rfl rfl rfl)) <| sS (dN z273 rfl (oStE (v' := x73) tF3 rfl rfl rfl (fxI fx0) rfl rfl (rd_get hx76) rfl)) trivial (sD (by kernel_rfl)))) ?_
          refine Unw.blk ?_
          refine Unw.seq ?_
          refine Go.r0 c273 rfl rfl (sq z273 (oMv rfl rfl) <| sq z273 (oBi rfl rfl rfl rfl) <| sq z273 (oAsI rfl rfl) <| nl) ?_
          refine Unw.nil ?_
          cases h
          exact ⟨rfl, (by kernel_rfl)⟩
        · rw [if_neg hc8] at h
          refine Go.condF rfl (byF iDec hc8) ?_
          refine Go.exit ?_
          refine Unw.seqx ?_
          refine Unw.nil ?_
          cases h
          exact ⟨rfl, (fin_of rfl rF273 rfl (by kernel_rfl))⟩
      · rintro ⟨e, st⟩ hp
        obtain ⟨r2, rfl⟩ : ∃ y, y = o := ⟨o, rfl⟩
        obtain ⟨he, hfin⟩ := hp
        obtain rfl : e = .exit 2 := he
        cases h
        refine Unw.blkx ?_
        refine Unw.seq ?_
        exact Go.ret (Unw.ret (Fin_ret hfin))
  · rw [if_neg hc1] at h
    refine Go.condF rfl (byF iEq hc1) ?_
    refine Go.skip ?_
    refine Unw.seq ?_
    refine Go.seq ?_
    refine Go.seq ?_
    refine Go.r0 c273 rfl rfl (sq z273 (oMv rfl rfl) <| sq z273 (oMv rfl rfl) <| sq z273 (oBi rfl rfl rfl rfl) <| sq z273 (oBi rfl rfl rfl rfl) <| nl) ?_
    refine Unw.seq ?_
    by_cases hc11 : (w64 (b_3 - m_2)) = 1
    · rw [if_pos hc11] at h
      refine Go.condT rfl (iEq.2 hc11) ?_
      refine Go.seq ?_
      refine Go.r0 c273 rfl rfl (sq z273 (oMv rfl rfl) <| sq z273 (oAsI rfl rfl) <| nl) ?_
      refine Unw.seq ?_
      refine Go.seq ?_
      refine Go.r0 c273 rfl rfl (sq z273 (oMv rfl rfl) <| sq z273 (oAsI rfl rfl) <| nl) ?_
      refine Unw.seq ?_
      refine Go.seq ?_
      refine Go.block ?_
      obtain ⟨o, hl, h⟩ := bs h
      refine Go.lp c273 rfl _ (fun (s : (Int × Int)) => match s with | (i_14_l15, j_15_l15) => mk [(0, .v false [.own 0 0 0]), (2, iv m_2), (4, .v false [.im 2 (.clo 170 [.cp [.row 1 (List.map eI fc4_0_0)] 0])]), (14, iv i_14_l15), (15, iv j_15_l15)] [(0, some ⟨0, 0, true, false, false, false, [⟨.sh, 0, 0, .row 1 (List.map eI data_0)⟩]⟩)]) (fun (i_14_e4_15 : Int) (p : Ex × St) => p.1 = .exit 4 ∧ p.2.norm ([0, 2, 14], [0]) = mk [(0, .v false [.own 0 0 0]), (2, iv m_2), (14, iv i_14_e4_15)] [(0, some ⟨0, 0, true, false, false, false, [⟨.sh, 0, 0, .row 1 (List.map eI data_0)⟩]⟩)]) hl (by kernel_rfl) ?_ ?_ ?_
      · intro o p hp e
        exact nomatch (hp.1.symm.trans e)
      · rintro ⟨i_14_l15, j_15_l15⟩ o h
        unfold slices_symMergeCmpFunc_int_l15 at h
        dsimp only at h
        refine Go.seq ?_
        refine Go.seq ?_
        refine Go.r0 c273 rfl rfl (sq z273 (oMv rfl rfl) <| sq z273 (oMv rfl rfl) <| sq z273 (oBi rfl rfl rfl rfl) <| nl) ?_
        refine Unw.seq ?_
        by_cases hc19 : i_14_l15 < j_15_l15
        · rw [if_pos hc19] at h
          refine Go.condT rfl (iDec.2 hc19) ?_
          refine Go.skip ?_
          refine Unw.seq ?_
          refine Go.block ?_
          refine Go.seq ?_
          obtain ⟨x90, hx90, h⟩ := bs h
          refine Go.r0 c273 rfl rfl (sq z273 (oMv rfl rfl) <| sq z273 (oMv rfl rfl) <| sq z273 (oBi rfl rfl rfl rfl) <| sq z273 (oCvI rfl uF3 uF364 rfl) <| sq z273 (oShr rfl hx90 rfl rfl) <| sq z273 (oCvI rfl uF364 uF3 rfl) <| sq z273 (oAsI rfl rfl) <| nl) ?_
          refine Unw.seq ?_
          refine Go.seq ?_
          obtain ⟨x95, hx95, h⟩ := bs h
          obtain ⟨x99, hx99, h⟩ := bs h
          obtain ⟨x101, hx101, h⟩ := bs h
          refine Go.dr c273 rfl rfl rfl rfl (mk [(0, .v false [.own 0 0 0]), (2, iv m_2), (4, .v false [.im 2 (.clo 170 [.cp [.row 1 (List.map eI fc4_0_0)] 0])]), (14, iv i_14_l15), (15, iv j_15_l15), (16, iv (w64 (x90))), (103, bv (!(decide (x101 < 0))))] [(0, some ⟨0, 0, true, false, false, false, [⟨.sh, 0, 0, .row 1 (List.map eI data_0)⟩]⟩)]) (sT rfl (dN z273 rfl (oMv rfl rfl)) <| sT rfl (dN z273 rfl (oMv rfl rfl)) <| sT rfl (dN z273 rfl (oMv rfl rfl)) <| sT rfl (dN z273 rfl (oIAO rfl hx95 sF267 rfl rfl rfl rfl)) <| sT rfl (dN z273 rfl (oLdE (cs := [.im 0 _]) rfl tF3 rfl rfl rfl (fun e => nomatch e) (rd_get hx95) rfl rfl)) <| sT rfl (dN z273 rfl (oMv rfl rfl)) <| sT rfl (dN z273 rfl (oMv rfl rfl)) <| sT rfl (dN z273 rfl (oIAO rfl hx99 sF267 rfl rfl rfl rfl)) <| sT rfl (dN z273 rfl (oLdE (cs := [.im 0 _]) rfl tF3 rfl rfl rfl (fun e => nomatch e) (rd_get hx99) rfl rfl)) <| sS (dN z273 rfl (oCa (xs := [.v false [.im 0 _], .v false [.im 0 _], .v false [.im 2 _]]) (vs := [(false, [.im 0 _])]) (v := .v false [.im 0 _]) (L_impl_DecreasingBlades_c1 hx101) (.inr ⟨_, _, rfl, rfl⟩) rfl kF170_3_3_0 rfl (ppC rfl (ppC rfl (ppC rfl pp0))) rfl rfl pb0 rfl rfl rfl)) trivial (sT rfl (dN z273 rfl (oBi rfl rfl rfl rfl)) <| sT rfl (dN z273 rfl (oUn rfl rfl rfl)) <| sD (by kernel_rfl))) ?_
          refine Unw.seq ?_
          by_cases hc20 : x101 < 0
          · rw [if_pos hc20] at h
            refine Go.condF rfl (nF (iDec.2 hc20)) ?_
            refine Go.r0 c273 rfl rfl (sq z273 (oMv rfl rfl) <| sq z273 (oAsI rfl rfl) <| nl) ?_
            refine Unw.blk ?_
            refine Unw.nil ?_
            cases h
            exact ⟨rfl, (by kernel_rfl)⟩
          · rw [if_neg hc20] at h
            refine Go.condT rfl (nT (byF iDec hc20)) ?_
            refine Go.r0 c273 rfl rfl (sq z273 (oMv rfl rfl) <| sq z273 (oBi rfl rfl rfl rfl) <| sq z273 (oAsI rfl rfl) <| nl) ?_
            refine Unw.blk ?_
            refine Unw.nil ?_
            cases h
            exact ⟨rfl, (by kernel_rfl)⟩
        · rw [if_neg hc19] at h
          refine Go.condF rfl (byF iDec hc19) ?_
          refine Go.exit ?_
          refine Unw.seqx ?_
          refine Unw.nil ?_
          cases h
          exact ⟨rfl, (by kernel_rfl)⟩
      · rintro ⟨e, st⟩ hp
        obtain ⟨i_14_e4_15, rfl⟩ : ∃ y, y = o := ⟨o, rfl⟩
        obtain ⟨he, hst⟩ := hp
        obtain rfl : e = .exit 4 := he
        refine Unw.blkx ?_
        refine Unw.seq ?_
        refine Go.seq ?_
        refine Go.seq ?_
        refine Go.r1 c273 rfl rfl hst (sq z273 (oMv rfl rfl) <| sq z273 (oAsI rfl rfl) <| nl) ?_
        refine Unw.seq ?_
        refine Go.block ?_
        obtain ⟨o, hl, h⟩ := bs h
        refine Go.lp c273 rfl _ (fun (s : (Int × (List Int))) => match s with | (k_17_l21, data_o0_l21) => mk [(0, .v false [.own 0 0 0]), (14, iv i_14_e4_15), (17, iv k_17_l21)] [(0, some ⟨0, 0, true, false, false, false, [⟨.sh, 0, 0, .row 1 (List.map eI data_o0_l21)⟩]⟩)]) (fun (r2 : (List Int)) (p : Ex × St) => p.1 = .exit 6 ∧ fin Try.prog cfg 273 Try.f273 [.ow 1 (List.map eI data_0), .im 2 false [.sc (.int .i64 a_1)], .im 2 false [.sc (.int .i64 m_2)], .im 2 false [.sc (.int .i64 b_3)], .im 2 false [.clo 170 [.cp [.row 1 (List.map eI fc4_0_0)] 0]]] p.2 = some ([], [.ow 1 (List.map eI r2)])) hl (by kernel_rfl) ?_ ?_ ?_
        · intro o p hp e
          exact nomatch (hp.1.symm.trans e)
        · rintro ⟨k_17_l21, data_o0_l21⟩ o h
          unfold slices_symMergeCmpFunc_int_l21 at h
          dsimp only at h
          refine Go.seq ?_
          refine Go.seq ?_
          refine Go.r0 c273 rfl rfl (sq z273 (oMv rfl rfl) <| sq z273 (oMv rfl rfl) <| sq z273 (oBi rfl rfl rfl rfl) <| nl) ?_
          refine Unw.seq ?_
          by_cases hc18 : k_17_l21 > i_14_e4_15
          · rw [if_pos hc18] at h
            refine Go.condT rfl (iDec.2 hc18) ?_
            refine Go.skip ?_
            refine Unw.seq ?_
            refine Go.seq ?_
            refine Go.block ?_
            obtain ⟨x121, hx121, h⟩ := bs h
            obtain ⟨x125, hx125, h⟩ := bs h
            obtain ⟨x127, hx127, h⟩ := bs h
            obtain ⟨x128, hx128, h⟩ := bs h
            refine Go.dr c273 rfl rfl rfl rfl (mk [(0, .v false [.own 0 0 0]), (14, iv i_14_e4_15), (17, iv k_17_l21)] [(0, some ⟨0, 0, true, false, false, false, [⟨.sh, 0, 0, .row 1 (List.map eI ((data_o0_l21.set k_17_l21.toNat x121).set ((w64 (k_17_l21 - 1)).toNat) x125))⟩]⟩)]) (sT rfl (dN z273 rfl (oMv rfl rfl)) <| sT rfl (dN z273 rfl (oMv rfl rfl)) <| sT rfl (dN z273 rfl (oMv rfl rfl)) <| sT rfl (dN z273 rfl (oMv rfl rfl)) <| sT rfl (dN z273 rfl (oBi rfl rfl rfl rfl)) <| sT rfl (dN z273 rfl (oMv rfl rfl)) <| sT rfl (dN z273 rfl (oMv rfl rfl)) <| sT rfl (dN z273 rfl (oBi rfl rfl rfl rfl)) <| sT rfl (dN z273 rfl (oIAO rfl hx121 sF267 rfl rfl rfl rfl)) <| sT rfl (dN z273 rfl (oLdE (cs := [.im 0 _]) rfl tF3 rfl rfl rfl (fun e => nomatch e) (rd_get hx121) rfl rfl)) <| sT rfl (dN z273 rfl (oMv rfl rfl)) <| sT rfl (dN z273 rfl (oMv rfl rfl)) <| sT rfl (dN z273 rfl (oIAO rfl hx125 sF267 rfl rfl rfl rfl)) <| sT rfl (dN z273 rfl (oLdE (cs := [.im 0 _]) rfl tF3 rfl rfl rfl (fun e => nomatch e) (rd_get hx125) rfl rfl)) <| sT rfl (dN z273 rfl (oIAO rfl hx127 sF267 rfl rfl rfl rfl)) <| sS (dN z273 rfl (oStE (v' := x121) tF3 rfl rfl rfl (fxI fx0) rfl rfl (rd_get hx127) rfl)) trivial (sT rfl (dN z273 rfl (oIAO rfl hx128 sF267 rfl rfl rfl rfl)) <| sS (dN z273 rfl (oStE (v' := x125) tF3 rfl rfl rfl (fxI fx0) rfl rfl (rd_get hx128) rfl)) trivial (sD (by kernel_rfl)))) ?_
            refine Unw.blk ?_
            refine Unw.seq ?_
            refine Go.r0 c273 rfl rfl (sq z273 (oMv rfl rfl) <| sq z273 (oBi rfl rfl rfl rfl) <| sq z273 (oAsI rfl rfl) <| nl) ?_
            refine Unw.nil ?_
            cases h
            exact ⟨rfl, (by kernel_rfl)⟩
          · rw [if_neg hc18] at h
            refine Go.condF rfl (byF iDec hc18) ?_
            refine Go.exit ?_
            refine Unw.seqx ?_
            refine Unw.nil ?_
            cases h
            exact ⟨rfl, (fin_of rfl rF273 rfl (by kernel_rfl))⟩
        · rintro ⟨e, st⟩ hp
          obtain ⟨r2, rfl⟩ : ∃ y, y = o := ⟨o, rfl⟩
          obtain ⟨he, hfin⟩ := hp
          obtain rfl : e = .exit 6 := he
          cases h
          refine Unw.blkx ?_
          refine Unw.seq ?_
          exact Go.ret (Unw.ret (Fin_ret hfin))
    · rw [if_neg hc11] at h
      refine Go.condF rfl (byF iEq hc11) ?_
      refine Go.skip ?_
      refine Unw.seq ?_
      refine Go.seq ?_
      obtain ⟨x133, hx133, h⟩ := bs h
      refine Go.r0 c273 rfl rfl (sq z273 (oMv rfl rfl) <| sq z273 (oMv rfl rfl) <| sq z273 (oBi rfl rfl rfl rfl) <| sq z273 (oCvI rfl uF3 uF364 rfl) <| sq z273 (oShr rfl hx133 rfl rfl) <| sq z273 (oCvI rfl uF364 uF3 rfl) <| sq z273 (oAsI rfl rfl) <| nl) ?_
      refine Unw.seq ?_
      refine Go.seq ?_
      refine Go.r0 c273 rfl rfl (sq z273 (oMv rfl rfl) <| sq z273 (oMv rfl rfl) <| sq z273 (oBi rfl rfl rfl rfl) <| sq z273 (oAsI rfl rfl) <| nl) ?_
      refine Unw.seq ?_
      refine Go.seq ?_
      refine Go.r0 c273 rfl rfl (sq z273 (oAsI rfl rfl) <| sq z273 (oAsI rfl rfl) <| nl) ?_
      refine Unw.seq ?_
      refine Go.seq ?_
      refine Go.seq ?_
      refine Go.r0 c273 rfl rfl (sq z273 (oMv rfl rfl) <| sq z273 (oMv rfl rfl) <| sq z273 (oBi rfl rfl rfl rfl) <| nl) ?_
      refine Unw.seq ?_
      refine Go.join (fun st => ∃ start_20_r32, ∃ r_21_r32, slices_symMergeCmpFunc_int_k32 self a_1 b_3 (fun b0 b1 => impl_DecreasingBlades_c1 b0 b1 fc4_0_0) data_0 m_2 x133 start_20_r32 r_21_r32 = some r ∧ st.norm ([0, 1, 2, 3, 4, 18, 19, 20, 21], [0]) = mk [(0, .v false [.own 0 0 0]), (1, iv a_1), (2, iv m_2), (3, iv b_3), (4, .v false [.im 2 (.clo 170 [.cp [.row 1 (List.map eI fc4_0_0)] 0])]), (18, iv (w64 (x133))), (19, iv (w64 ((w64 (x133)) + m_2))), (20, iv start_20_r32), (21, iv r_21_r32)] [(0, some ⟨0, 0, true, false, false, false, [⟨.sh, 0, 0, .row 1 (List.map eI data_0)⟩]⟩)]) ?_ ?_
      · rintro st ⟨start_20_r32, r_21_r32, h, hst⟩
        unfold slices_symMergeCmpFunc_int_k32 at h
        refine Unw.seq ?_
        refine Go.seq ?_
        refine Go.r1 c273 rfl rfl hst (sq z273 (oMv rfl rfl) <| sq z273 (oBi rfl rfl rfl rfl) <| sq z273 (oAsI rfl rfl) <| nl) ?_
        refine Unw.seq ?_
        refine Go.seq ?_
        refine Go.block ?_
        obtain ⟨o, hl, h⟩ := bs h
        refine Go.lp c273 rfl _ (fun (s : (Int × Int)) => match s with | (start_20_l33, r_21_l33) => mk [(0, .v false [.own 0 0 0]), (1, iv a_1), (2, iv m_2), (3, iv b_3), (4, .v false [.im 2 (.clo 170 [.cp [.row 1 (List.map eI fc4_0_0)] 0])]), (18, iv (w64 (x133))), (19, iv (w64 ((w64 (x133)) + m_2))), (20, iv start_20_l33), (21, iv r_21_l33), (22, iv (w64 ((w64 ((w64 (x133)) + m_2)) - 1)))] [(0, some ⟨0, 0, true, false, false, false, [⟨.sh, 0, 0, .row 1 (List.map eI data_0)⟩]⟩)]) (fun (start_20_e8_33 : Int) (p : Ex × St) => p.1 = .exit 8 ∧ p.2.norm ([0, 1, 2, 3, 4, 18, 19, 20], [0]) = mk [(0, .v false [.own 0 0 0]), (1, iv a_1), (2, iv m_2), (3, iv b_3), (4, .v false [.im 2 (.clo 170 [.cp [.row 1 (List.map eI fc4_0_0)] 0])]), (18, iv (w64 (x133))), (19, iv (w64 ((w64 (x133)) + m_2))), (20, iv start_20_e8_33)] [(0, some ⟨0, 0, true, false, false, false, [⟨.sh, 0, 0, .row 1 (List.map eI data_0)⟩]⟩)]) hl (by kernel_rfl) ?_ ?_ ?_
        · intro o p hp e
          exact nomatch (hp.1.symm.trans e)
        · rintro ⟨start_20_l33, r_21_l33⟩ o h
          unfold slices_symMergeCmpFunc_int_l33 at h
          dsimp only at h
          refine Go.seq ?_
          refine Go.seq ?_
          refine Go.r0 c273 rfl rfl (sq z273 (oMv rfl rfl) <| sq z273 (oMv rfl rfl) <| sq z273 (oBi rfl rfl rfl rfl) <| nl) ?_
          refine Unw.seq ?_
          by_cases hc36 : start_20_l33 < r_21_l33
          · rw [if_pos hc36] at h
            refine Go.condT rfl (iDec.2 hc36) ?_
            refine Go.skip ?_
            refine Unw.seq ?_
            refine Go.block ?_
            refine Go.seq ?_
            obtain ⟨x156, hx156, h⟩ := bs h
            refine Go.r0 c273 rfl rfl (sq z273 (oMv rfl rfl) <| sq z273 (oMv rfl rfl) <| sq z273 (oBi rfl rfl rfl rfl) <| sq z273 (oCvI rfl uF3 uF364 rfl) <| sq z273 (oShr rfl hx156 rfl rfl) <| sq z273 (oCvI rfl uF364 uF3 rfl) <| sq z273 (oAsI rfl rfl) <| nl) ?_
            refine Unw.seq ?_
            refine Go.seq ?_
            obtain ⟨x163, hx163, h⟩ := bs h
            obtain ⟨x167, hx167, h⟩ := bs h
            obtain ⟨x169, hx169, h⟩ := bs h
            refine Go.dr c273 rfl rfl rfl rfl (mk [(0, .v false [.own 0 0 0]), (1, iv a_1), (2, iv m_2), (3, iv b_3), (4, .v false [.im 2 (.clo 170 [.cp [.row 1 (List.map eI fc4_0_0)] 0])]), (18, iv (w64 (x133))), (19, iv (w64 ((w64 (x133)) + m_2))), (20, iv start_20_l33), (21, iv r_21_l33), (22, iv (w64 ((w64 ((w64 (x133)) + m_2)) - 1))), (23, iv (w64 (x156))), (171, bv (!(decide (x169 < 0))))] [(0, some ⟨0, 0, true, false, false, false, [⟨.sh, 0, 0, .row 1 (List.map eI data_0)⟩]⟩)]) (sT rfl (dN z273 rfl (oMv rfl rfl)) <| sT rfl (dN z273 rfl (oMv rfl rfl)) <| sT rfl (dN z273 rfl (oMv rfl rfl)) <| sT rfl (dN z273 rfl (oMv rfl rfl)) <| sT rfl (dN z273 rfl (oBi rfl rfl rfl rfl)) <| sT rfl (dN z273 rfl (oIAO rfl hx163 sF267 rfl rfl rfl rfl)) <| sT rfl (dN z273 rfl (oLdE (cs := [.im 0 _]) rfl tF3 rfl rfl rfl (fun e => nomatch e) (rd_get hx163) rfl rfl)) <| sT rfl (dN z273 rfl (oMv rfl rfl)) <| sT rfl (dN z273 rfl (oMv rfl rfl)) <| sT rfl (dN z273 rfl (oIAO rfl hx167 sF267 rfl rfl rfl rfl)) <| sT rfl (dN z273 rfl (oLdE (cs := [.im 0 _]) rfl tF3 rfl rfl rfl (fun e => nomatch e) (rd_get hx167) rfl rfl)) <| sS (dN z273 rfl (oCa (xs := [.v false [.im 0 _], .v false [.im 0 _], .v false [.im 2 _]]) (vs := [(false, [.im 0 _])]) (v := .v false [.im 0 _]) (L_impl_DecreasingBlades_c1 hx169) (.inr ⟨_, _, rfl, rfl⟩) rfl kF170_3_3_0 rfl (ppC rfl (ppC rfl (ppC rfl pp0))) rfl rfl pb0 rfl rfl rfl)) trivial (sT rfl (dN z273 rfl (oBi rfl rfl rfl rfl)) <| sT rfl (dN z273 rfl (oUn rfl rfl rfl)) <| sD (by kernel_rfl))) ?_
            refine Unw.seq ?_
            by_cases hc37 : x169 < 0
            · rw [if_pos hc37] at h
              refine Go.condF rfl (nF (iDec.2 hc37)) ?_
              refine Go.r0 c273 rfl rfl (sq z273 (oMv rfl rfl) <| sq z273 (oAsI rfl rfl) <| nl) ?_
              refine Unw.blk ?_
              refine Unw.nil ?_
              cases h
              exact ⟨rfl, (by kernel_rfl)⟩
            · rw [if_neg hc37] at h
              refine Go.condT rfl (nT (byF iDec hc37)) ?_
              refine Go.r0 c273 rfl rfl (sq z273 (oMv rfl rfl) <| sq z273 (oBi rfl rfl rfl rfl) <| sq z273 (oAsI rfl rfl) <| nl) ?_
              refine Unw.blk ?_
              refine Unw.nil ?_
              cases h
              exact ⟨rfl, (by kernel_rfl)⟩
          · rw [if_neg hc36] at h
            refine Go.condF rfl (byF iDec hc36) ?_
            refine Go.exit ?_
            refine Unw.seqx ?_
            refine Unw.nil ?_
            cases h
            exact ⟨rfl, (by kernel_rfl)⟩
        · rintro ⟨e, st⟩ hp
          obtain ⟨start_20_e8_33, rfl⟩ : ∃ y, y = o := ⟨o, rfl⟩
          obtain ⟨he, hst⟩ := hp
          obtain rfl : e = .exit 8 := he
          refine Unw.blkx ?_
          refine Unw.seq ?_
          refine Go.seq ?_
          refine Go.r1 c273 rfl rfl hst (sq z273 (oMv rfl rfl) <| sq z273 (oMv rfl rfl) <| sq z273 (oBi rfl rfl rfl rfl) <| sq z273 (oAsI rfl rfl) <| nl) ?_
          refine Unw.seq ?_
          refine Go.seq ?_
          refine Go.seq ?_
          refine Go.rX c273 rfl rfl rfl (mk [(0, .v false [.own 0 0 0]), (1, iv a_1), (2, iv m_2), (3, iv b_3), (4, .v false [.im 2 (.clo 170 [.cp [.row 1 (List.map eI fc4_0_0)] 0])]), (18, iv (w64 (x133))), (20, iv start_20_e8_33), (24, iv (w64 ((w64 ((w64 (x133)) + m_2)) - start_20_e8_33))), (185, bv ((decide (start_20_e8_33 < m_2)) && (decide (m_2 < (w64 ((w64 ((w64 (x133)) + m_2)) - start_20_e8_33))))))] [(0, some ⟨0, 0, true, false, false, false, [⟨.sh, 0, 0, .row 1 (List.map eI data_0)⟩]⟩)]) ?_ ?_
          · by_cases hc26 : start_20_e8_33 < m_2
            · exact ⟨_, sq z273 (oMv rfl rfl) <| sq z273 (oMv rfl rfl) <| sq z273 (oBi rfl rfl rfl rfl) <| sq z273 (oMv rfl rfl) <| sgT z273 rfl rfl (iDec.2 hc26) (oMv rfl rfl) <| sgT z273 rfl rfl (iDec.2 hc26) (oMv rfl rfl) <| sgT z273 rfl rfl (iDec.2 hc26) (oBi rfl rfl rfl rfl) <| sq z273 (oPkT rfl rfl (iDec.2 hc26) rfl) <| nl, (Eq.trans (b := (fun t_185_m39 : Bool => mk [(0, .v false [.own 0 0 0]), (1, iv a_1), (2, iv m_2), (3, iv b_3), (4, .v false [.im 2 (.clo 170 [.cp [.row 1 (List.map eI fc4_0_0)] 0])]), (18, iv (w64 (x133))), (20, iv start_20_e8_33), (24, iv (w64 ((w64 ((w64 (x133)) + m_2)) - start_20_e8_33))), (185, bv t_185_m39)] [(0, some ⟨0, 0, true, false, false, false, [⟨.sh, 0, 0, .row 1 (List.map eI data_0)⟩]⟩)]) (decide (m_2 < (w64 ((w64 ((w64 (x133)) + m_2)) - start_20_e8_33))))) (by kernel_rfl) (congrArg (fun t_185_m39 : Bool => mk [(0, .v false [.own 0 0 0]), (1, iv a_1), (2, iv m_2), (3, iv b_3), (4, .v false [.im 2 (.clo 170 [.cp [.row 1 (List.map eI fc4_0_0)] 0])]), (18, iv (w64 (x133))), (20, iv start_20_e8_33), (24, iv (w64 ((w64 ((w64 (x133)) + m_2)) - start_20_e8_33))), (185, bv t_185_m39)] [(0, some ⟨0, 0, true, false, false, false, [⟨.sh, 0, 0, .row 1 (List.map eI data_0)⟩]⟩)]) (by first | rfl | (simp [(iDec.2 hc26)]; done) | (simp [(iDec.2 hc26)]; omega))))⟩
            · exact ⟨_, sq z273 (oMv rfl rfl) <| sq z273 (oMv rfl rfl) <| sq z273 (oBi rfl rfl rfl rfl) <| sq z273 (oMv rfl rfl) <| sgF rfl rfl (byF iDec hc26) rfl <| sgF rfl rfl (byF iDec hc26) rfl <| sgF rfl rfl (byF iDec hc26) rfl <| sq z273 (oPkF rfl rfl (byF iDec hc26) rfl) <| nl, (Eq.trans (b := (fun t_185_m39 : Bool => mk [(0, .v false [.own 0 0 0]), (1, iv a_1), (2, iv m_2), (3, iv b_3), (4, .v false [.im 2 (.clo 170 [.cp [.row 1 (List.map eI fc4_0_0)] 0])]), (18, iv (w64 (x133))), (20, iv start_20_e8_33), (24, iv (w64 ((w64 ((w64 (x133)) + m_2)) - start_20_e8_33))), (185, bv t_185_m39)] [(0, some ⟨0, 0, true, false, false, false, [⟨.sh, 0, 0, .row 1 (List.map eI data_0)⟩]⟩)]) false) (by kernel_rfl) (congrArg (fun t_185_m39 : Bool => mk [(0, .v false [.own 0 0 0]), (1, iv a_1), (2, iv m_2), (3, iv b_3), (4, .v false [.im 2 (.clo 170 [.cp [.row 1 (List.map eI fc4_0_0)] 0])]), (18, iv (w64 (x133))), (20, iv start_20_e8_33), (24, iv (w64 ((w64 ((w64 (x133)) + m_2)) - start_20_e8_33))), (185, bv t_185_m39)] [(0, some ⟨0, 0, true, false, false, false, [⟨.sh, 0, 0, .row 1 (List.map eI data_0)⟩]⟩)]) (by first | rfl | (simp [(byF iDec hc26)]; done) | (simp [(byF iDec hc26)]; omega))))⟩
          · refine Unw.seq ?_
            refine Go.join (fun st => ∃ data_o0_r41, slices_symMergeCmpFunc_int_k41 self a_1 b_3 (fun b0 b1 => impl_DecreasingBlades_c1 b0 b1 fc4_0_0) m_2 start_20_e8_33 x133 data_o0_r41 = some r ∧ st.norm ([0, 1, 3, 4, 18, 20, 24], [0]) = mk [(0, .v false [.own 0 0 0]), (1, iv a_1), (3, iv b_3), (4, .v false [.im 2 (.clo 170 [.cp [.row 1 (List.map eI fc4_0_0)] 0])]), (18, iv (w64 (x133))), (20, iv start_20_e8_33), (24, iv (w64 ((w64 ((w64 (x133)) + m_2)) - start_20_e8_33)))] [(0, some ⟨0, 0, true, false, false, false, [⟨.sh, 0, 0, .row 1 (List.map eI data_o0_r41)⟩]⟩)]) ?_ ?_
            · rintro st ⟨data_o0_r41, h, hst⟩
              unfold slices_symMergeCmpFunc_int_k41 at h
              refine Unw.seq ?_
              refine Go.seq ?_
              refine Go.seq ?_
              refine Go.rX c273 rfl rfl hst (mk [(0, .v false [.own 0 0 0]), (1, iv a_1), (3, iv b_3), (4, .v false [.im 2 (.clo 170 [.cp [.row 1 (List.map eI fc4_0_0)] 0])]), (18, iv (w64 (x133))), (20, iv start_20_e8_33), (24, iv (w64 ((w64 ((w64 (x133)) + m_2)) - start_20_e8_33))), (199, bv ((decide (a_1 < start_20_e8_33)) && (decide (start_20_e8_33 < (w64 (x133))))))] [(0, some ⟨0, 0, true, false, false, false, [⟨.sh, 0, 0, .row 1 (List.map eI data_o0_r41)⟩]⟩)]) ?_ ?_
              · by_cases hc28 : a_1 < start_20_e8_33
                · exact ⟨_, sq z273 (oMv rfl rfl) <| sq z273 (oMv rfl rfl) <| sq z273 (oBi rfl rfl rfl rfl) <| sq z273 (oMv rfl rfl) <| sgT z273 rfl rfl (iDec.2 hc28) (oMv rfl rfl) <| sgT z273 rfl rfl (iDec.2 hc28) (oMv rfl rfl) <| sgT z273 rfl rfl (iDec.2 hc28) (oBi rfl rfl rfl rfl) <| sq z273 (oPkT rfl rfl (iDec.2 hc28) rfl) <| nl, (Eq.trans (b := (fun t_199_m41 : Bool => mk [(0, .v false [.own 0 0 0]), (1, iv a_1), (3, iv b_3), (4, .v false [.im 2 (.clo 170 [.cp [.row 1 (List.map eI fc4_0_0)] 0])]), (18, iv (w64 (x133))), (20, iv start_20_e8_33), (24, iv (w64 ((w64 ((w64 (x133)) + m_2)) - start_20_e8_33))), (199, bv t_199_m41)] [(0, some ⟨0, 0, true, false, false, false, [⟨.sh, 0, 0, .row 1 (List.map eI data_o0_r41)⟩]⟩)]) (decide (start_20_e8_33 < (w64 (x133))))) (by kernel_rfl) (congrArg (fun t_199_m41 : Bool => mk [(0, .v false [.own 0 0 0]), (1, iv a_1), (3, iv b_3), (4, .v false [.im 2 (.clo 170 [.cp [.row 1 (List.map eI fc4_0_0)] 0])]), (18, iv (w64 (x133))), (20, iv start_20_e8_33), (24, iv (w64 ((w64 ((w64 (x133)) + m_2)) - start_20_e8_33))), (199, bv t_199_m41)] [(0, some ⟨0, 0, true, false, false, false, [⟨.sh, 0, 0, .row 1 (List.map eI data_o0_r41)⟩]⟩)]) (by first | rfl | (simp [(iDec.2 hc28)]; done) | (simp [(iDec.2 hc28)]; omega))))⟩
                · exact ⟨_, sq z273 (oMv rfl rfl) <| sq z273 (oMv rfl rfl) <| sq z273 (oBi rfl rfl rfl rfl) <| sq z273 (oMv rfl rfl) <| sgF rfl rfl (byF iDec hc28) rfl <| sgF rfl rfl (byF iDec hc28) rfl <| sgF rfl rfl (byF iDec hc28) rfl <| sq z273 (oPkF rfl rfl (byF iDec hc28) rfl) <| nl, (Eq.trans (b := (fun t_199_m41 : Bool => mk [(0, .v false [.own 0 0 0]), (1, iv a_1), (3, iv b_3), (4, .v false [.im 2 (.clo 170 [.cp [.row 1 (List.map eI fc4_0_0)] 0])]), (18, iv (w64 (x133))), (20, iv start_20_e8_33), (24, iv (w64 ((w64 ((w64 (x133)) + m_2)) - start_20_e8_33))), (199, bv t_199_m41)] [(0, some ⟨0, 0, true, false, false, false, [⟨.sh, 0, 0, .row 1 (List.map eI data_o0_r41)⟩]⟩)]) false) (by kernel_rfl) (congrArg (fun t_199_m41 : Bool => mk [(0, .v false [.own 0 0 0]), (1, iv a_1), (3, iv b_3), (4, .v false [.im 2 (.clo 170 [.cp [.row 1 (List.map eI fc4_0_0)] 0])]), (18, iv (w64 (x133))), (20, iv start_20_e8_33), (24, iv (w64 ((w64 ((w64 (x133)) + m_2)) - start_20_e8_33))), (199, bv t_199_m41)] [(0, some ⟨0, 0, true, false, false, false, [⟨.sh, 0, 0, .row 1 (List.map eI data_o0_r41)⟩]⟩)]) (by first | rfl | (simp [(byF iDec hc28)]; done) | (simp [(byF iDec hc28)]; omega))))⟩
              · refine Unw.seq ?_
                refine Go.join (fun st => ∃ data_o0_r43, slices_symMergeCmpFunc_int_k43 self b_3 (fun b0 b1 => impl_DecreasingBlades_c1 b0 b1 fc4_0_0) m_2 start_20_e8_33 x133 data_o0_r43 = some r ∧ st.norm ([0, 3, 4, 18, 24], [0]) = mk [(0, .v false [.own 0 0 0]), (3, iv b_3), (4, .v false [.im 2 (.clo 170 [.cp [.row 1 (List.map eI fc4_0_0)] 0])]), (18, iv (w64 (x133))), (24, iv (w64 ((w64 ((w64 (x133)) + m_2)) - start_20_e8_33)))] [(0, some ⟨0, 0, true, false, false, false, [⟨.sh, 0, 0, .row 1 (List.map eI data_o0_r43)⟩]⟩)]) ?_ ?_
                · rintro st ⟨data_o0_r43, h, hst⟩
                  unfold slices_symMergeCmpFunc_int_k43 at h
                  refine Unw.seq ?_
                  refine Go.seq ?_
                  refine Go.rX c273 rfl rfl hst (mk [(0, .v false [.own 0 0 0]), (3, iv b_3), (4, .v false [.im 2 (.clo 170 [.cp [.row 1 (List.map eI fc4_0_0)] 0])]), (18, iv (w64 (x133))), (24, iv (w64 ((w64 ((w64 (x133)) + m_2)) - start_20_e8_33))), (213, bv ((decide ((w64 (x133)) < (w64 ((w64 ((w64 (x133)) + m_2)) - start_20_e8_33)))) && (decide ((w64 ((w64 ((w64 (x133)) + m_2)) - start_20_e8_33)) < b_3))))] [(0, some ⟨0, 0, true, false, false, false, [⟨.sh, 0, 0, .row 1 (List.map eI data_o0_r43)⟩]⟩)]) ?_ ?_
                  · by_cases hc30 : (w64 (x133)) < (w64 ((w64 ((w64 (x133)) + m_2)) - start_20_e8_33))
                    · exact ⟨_, sq z273 (oMv rfl rfl) <| sq z273 (oMv rfl rfl) <| sq z273 (oBi rfl rfl rfl rfl) <| sq z273 (oMv rfl rfl) <| sgT z273 rfl rfl (iDec.2 hc30) (oMv rfl rfl) <| sgT z273 rfl rfl (iDec.2 hc30) (oMv rfl rfl) <| sgT z273 rfl rfl (iDec.2 hc30) (oBi rfl rfl rfl rfl) <| sq z273 (oPkT rfl rfl (iDec.2 hc30) rfl) <| nl, (Eq.trans (b := (fun t_213_m43 : Bool => mk [(0, .v false [.own 0 0 0]), (3, iv b_3), (4, .v false [.im 2 (.clo 170 [.cp [.row 1 (List.map eI fc4_0_0)] 0])]), (18, iv (w64 (x133))), (24, iv (w64 ((w64 ((w64 (x133)) + m_2)) - start_20_e8_33))), (213, bv t_213_m43)] [(0, some ⟨0, 0, true, false, false, false, [⟨.sh, 0, 0, .row 1 (List.map eI data_o0_r43)⟩]⟩)]) (decide ((w64 ((w64 ((w64 (x133)) + m_2)) - start_20_e8_33)) < b_3))) (by kernel_rfl) (congrArg (fun t_213_m43 : Bool => mk [(0, .v false [.own 0 0 0]), (3, iv b_3), (4, .v false [.im 2 (.clo 170 [.cp [.row 1 (List.map eI fc4_0_0)] 0])]), (18, iv (w64 (x133))), (24, iv (w64 ((w64 ((w64 (x133)) + m_2)) - start_20_e8_33))), (213, bv t_213_m43)] [(0, some ⟨0, 0, true, false, false, false, [⟨.sh, 0, 0, .row 1 (List.map eI data_o0_r43)⟩]⟩)]) (by first | rfl | (simp [(iDec.2 hc30)]; done) | (simp [(iDec.2 hc30)]; omega))))⟩
                    · exact ⟨_, sq z273 (oMv rfl rfl) <| sq z273 (oMv rfl rfl) <| sq z273 (oBi rfl rfl rfl rfl) <| sq z273 (oMv rfl rfl) <| sgF rfl rfl (byF iDec hc30) rfl <| sgF rfl rfl (byF iDec hc30) rfl <| sgF rfl rfl (byF iDec hc30) rfl <| sq z273 (oPkF rfl rfl (byF iDec hc30) rfl) <| nl, (Eq.trans (b := (fun t_213_m43 : Bool => mk [(0, .v false [.own 0 0 0]), (3, iv b_3), (4, .v false [.im 2 (.clo 170 [.cp [.row 1 (List.map eI fc4_0_0)] 0])]), (18, iv (w64 (x133))), (24, iv (w64 ((w64 ((w64 (x133)) + m_2)) - start_20_e8_33))), (213, bv t_213_m43)] [(0, some ⟨0, 0, true, false, false, false, [⟨.sh, 0, 0, .row 1 (List.map eI data_o0_r43)⟩]⟩)]) false) (by kernel_rfl) (congrArg (fun t_213_m43 : Bool => mk [(0, .v false [.own 0 0 0]), (3, iv b_3), (4, .v false [.im 2 (.clo 170 [.cp [.row 1 (List.map eI fc4_0_0)] 0])]), (18, iv (w64 (x133))), (24, iv (w64 ((w64 ((w64 (x133)) + m_2)) - start_20_e8_33))), (213, bv t_213_m43)] [(0, some ⟨0, 0, true, false, false, false, [⟨.sh, 0, 0, .row 1 (List.map eI data_o0_r43)⟩]⟩)]) (by first | rfl | (simp [(byF iDec hc30)]; done) | (simp [(byF iDec hc30)]; omega))))⟩
                  · refine Unw.seq ?_
                    by_cases hc31 : ((w64 (x133)) < (w64 ((w64 ((w64 (x133)) + m_2)) - start_20_e8_33)) ∧ (w64 ((w64 ((w64 (x133)) + m_2)) - start_20_e8_33)) < b_3)
                    · rw [if_pos hc31] at h
                      refine Go.condT rfl ((iAnd iDec iDec).2 hc31) ?_
                      obtain ⟨x219, hx219, h⟩ := bs h
                      refine Go.r0 c273 rfl rfl (sq z273 (oMv rfl rfl) <| sq z273 (oMv rfl rfl) <| sq z273 (oMv rfl rfl) <| sq z273 (oMv rfl rfl) <| sq z273 (oMv rfl rfl) <| sq z273 (oCa (xs := [.v false [.own 0 0 0], .v false [.im 0 _], .v false [.im 0 _], .v false [.im 0 _], .v false [.im 2 _]]) (vs := []) (v := .tup []) (ih hx219) (.inl rfl) rfl kF273_267_3_3_3_269 rfl (ppC rfl (ppC rfl (ppC rfl (ppC rfl (ppC rfl pp0))))) rfl rfl (pbO rfl rfl rfl rfl pb0) rfl rfl rfl) <| nl) ?_
                      refine Unw.nil ?_
                      cases h
                      exact Fin_end (fin_of rfl rF273 rfl (by kernel_rfl))
                    · rw [if_neg hc31] at h
                      refine Go.condF rfl (byF (iAnd iDec iDec) hc31) ?_
                      refine Go.skip ?_
                      refine Unw.nil ?_
                      cases h
                      exact Fin_end (fin_of rfl rF273 rfl (by kernel_rfl))
                · intro K32
                  by_cases hc33 : (a_1 < start_20_e8_33 ∧ start_20_e8_33 < (w64 (x133)))
                  · rw [if_pos hc33] at h
                    refine Go.condT rfl ((iAnd iDec iDec).2 hc33) ?_
                    obtain ⟨x205, hx205, h⟩ := bs h
                    refine Go.r0 c273 rfl rfl (sq z273 (oMv rfl rfl) <| sq z273 (oMv rfl rfl) <| sq z273 (oMv rfl rfl) <| sq z273 (oMv rfl rfl) <| sq z273 (oMv rfl rfl) <| sq z273 (oCa (xs := [.v false [.own 0 0 0], .v false [.im 0 _], .v false [.im 0 _], .v false [.im 0 _], .v false [.im 2 _]]) (vs := []) (v := .tup []) (ih hx205) (.inl rfl) rfl kF273_267_3_3_3_269 rfl (ppC rfl (ppC rfl (ppC rfl (ppC rfl (ppC rfl pp0))))) rfl rfl (pbO rfl rfl rfl rfl pb0) rfl rfl rfl) <| nl) ?_
                    exact K32 _ ⟨x205, h, (by kernel_rfl)⟩
                  · rw [if_neg hc33] at h
                    refine Go.condF rfl (byF (iAnd iDec iDec) hc33) ?_
                    refine Go.skip ?_
                    exact K32 _ ⟨data_o0_r41, h, (by kernel_rfl)⟩
            · intro K34
              by_cases hc35 : (start_20_e8_33 < m_2 ∧ m_2 < (w64 ((w64 ((w64 (x133)) + m_2)) - start_20_e8_33)))
              · rw [if_pos hc35] at h
                refine Go.condT rfl ((iAnd iDec iDec).2 hc35) ?_
                obtain ⟨x191, hx191, h⟩ := bs h
                refine Go.r0 c273 rfl rfl (sq z273 (oMv rfl rfl) <| sq z273 (oMv rfl rfl) <| sq z273 (oMv rfl rfl) <| sq z273 (oMv rfl rfl) <| sq z273 (oMv rfl rfl) <| sq z273 (oCa (xs := [.v false [.own 0 0 0], .v false [.im 0 _], .v false [.im 0 _], .v false [.im 0 _], .v false [.im 2 _]]) (vs := []) (v := .tup []) (L_slices_rotateCmpFunc_int_170 hx191) (.inl rfl) rfl kF284_267_3_3_3_269 rfl (ppC rfl (ppC rfl (ppC rfl (ppC rfl (ppC rfl pp0))))) rfl rfl (pbO rfl rfl rfl rfl pb0) rfl rfl rfl) <| nl) ?_
                exact K34 _ ⟨x191, h, (by kernel_rfl)⟩
              · rw [if_neg hc35] at h
                refine Go.condF rfl (byF (iAnd iDec iDec) hc35) ?_
                refine Go.skip ?_
                exact K34 _ ⟨data_0, h, (by kernel_rfl)⟩
      · intro K38
        by_cases hc39 : m_2 > (w64 (x133))
        · rw [if_pos hc39] at h
          refine Go.condT rfl (iDec.2 hc39) ?_
          refine Go.seq ?_
          refine Go.r0 c273 rfl rfl (sq z273 (oMv rfl rfl) <| sq z273 (oMv rfl rfl) <| sq z273 (oBi rfl rfl rfl rfl) <| sq z273 (oAsI rfl rfl) <| nl) ?_
          refine Unw.seq ?_
          refine Go.r0 c273 rfl rfl (sq z273 (oMv rfl rfl) <| sq z273 (oAsI rfl rfl) <| nl) ?_
          exact K38 _ ⟨(w64 ((w64 ((w64 (x133)) + m_2)) - b_3)), (w64 (x133)), h, (by kernel_rfl)⟩
        · rw [if_neg hc39] at h
          refine Go.condF rfl (byF iDec hc39) ?_
          refine Go.seq ?_
          refine Go.r0 c273 rfl rfl (sq z273 (oMv rfl rfl) <| sq z273 (oAsI rfl rfl) <| nl) ?_
          refine Unw.seq ?_
          refine Go.r0 c273 rfl rfl (sq z273 (oMv rfl rfl) <| sq z273 (oAsI rfl rfl) <| nl) ?_
          exact K38 _ ⟨a_1, m_2, h, (by kernel_rfl)⟩
theorem L_slices_symMergeCmpFunc_int_170 {data_0 : (List Int)} {a_1 : Int} {m_2 : Int} {b_3 : Int} {fc4_0_0 : (List Int)} {r : (List Int)} (h : slices_symMergeCmpFunc_int data_0 a_1 m_2 b_3 (fun b0 b1 => impl_DecreasingBlades_c1 b0 b1 fc4_0_0) = some r) : FL Try.prog cfg 273 [.ow 1 (List.map eI data_0), .im 2 false [.sc (.int .i64 a_1)], .im 2 false [.sc (.int .i64 m_2)], .im 2 false [.sc (.int .i64 b_3)], .im 2 false [.clo 170 [.cp [.row 1 (List.map eI fc4_0_0)] 0]]] = some ([], [.ow 1 (List.map eI r)]) := by
  unfold slices_symMergeCmpFunc_int at h
  obtain ⟨n, hn⟩ := fixO_iter h
  clear h
  induction n generalizing data_0 a_1 m_2 b_3 r with
  | zero => cases hn
  | succ n ihn => exact L_slices_symMergeCmpFunc_int_170_F (self := iterO _ n) (fun h => ihn h) hn
theorem L_slices_stableCmpFunc_int_170 {data_0 : (List Int)} {n_1 : Int} {fc2_0_0 : (List Int)} {r : (List Int)} (h : slices_stableCmpFunc_int data_0 n_1 (fun b0 b1 => impl_DecreasingBlades_c1 b0 b1 fc2_0_0) = some r) : FL Try.prog cfg 241 [.ow 1 (List.map eI data_0), .im 2 false [.sc (.int .i64 n_1)], .im 2 false [.clo 170 [.cp [.row 1 (List.map eI fc2_0_0)] 0]]] = some ([], [.ow 1 (List.map eI r)]) := by
  unfold slices_stableCmpFunc_int at h
  refine FL_goS (A := [(0, .v false [.own 0 0 0]), (1, .v false [.im 2 (.sc (.int .i64 n_1))]), (2, .v false [.im 2 (.clo 170 [.cp [.row 1 (List.map eI fc2_0_0)] 0])])]) (B := [(0, some ⟨0, 0, true, false, false, false, [⟨.sh, 0, 0, .row 1 (List.map eI data_0)⟩]⟩), (1, none), (2, none)]) (nt := 63) rfl rfl Try.func241 rfl rfl rfl rfl ?_
  refine Go.seq ?_
  refine Go.r0 c241 rfl rfl (sq z241 (oAsI rfl rfl) <| nl) ?_
  refine Unw.seq ?_
  refine Go.seq ?_
  refine Go.r0 c241 rfl rfl (sq z241 (oMv rfl rfl) <| sq z241 (oAsI rfl rfl) <| sq z241 (oAsI rfl rfl) <| nl) ?_
  refine Unw.seq ?_
  refine Go.seq ?_
  refine Go.block ?_
  obtain ⟨o, hl, h⟩ := bs h
  refine Go.lp c241 rfl _ (fun (s : (Int × Int × (List Int))) => match s with | (a_7_l2, b_8_l2, data_o0_l2) => mk [(0, .v false [.own 0 0 0]), (1, iv n_1), (2, .v false [.im 2 (.clo 170 [.cp [.row 1 (List.map eI fc2_0_0)] 0])]), (6, iv 20), (7, iv a_7_l2), (8, iv b_8_l2)] [(0, some ⟨0, 0, true, false, false, false, [⟨.sh, 0, 0, .row 1 (List.map eI data_o0_l2)⟩]⟩)]) (fun (o : (Int × (List Int))) (p : Ex × St) => match o with | (a_7_e0_2, data_o0_e0_2) => p.1 = .exit 0 ∧ p.2.norm ([0, 1, 2, 6, 7], [0]) = mk [(0, .v false [.own 0 0 0]), (1, iv n_1), (2, .v false [.im 2 (.clo 170 [.cp [.row 1 (List.map eI fc2_0_0)] 0])]), (6, iv 20), (7, iv a_7_e0_2)] [(0, some ⟨0, 0, true, false, false, false, [⟨.sh, 0, 0, .row 1 (List.map eI data_o0_e0_2)⟩]⟩)]) hl (by kernel_rfl) ?_ ?_ ?_
  · intro o p hp e
    obtain ⟨a_7_e0_2, data_o0_e0_2⟩ := o
    exact nomatch (hp.1.symm.trans e)
  · rintro ⟨a_7_l2, b_8_l2, data_o0_l2⟩ o h
    unfold slices_stableCmpFunc_int_l2 at h
    dsimp only at h
    refine Go.seq ?_
    refine Go.seq ?_
    refine Go.r0 c241 rfl rfl (sq z241 (oMv rfl rfl) <| sq z241 (oMv rfl rfl) <| sq z241 (oBi rfl rfl rfl rfl) <| nl) ?_
    refine Unw.seq ?_
    by_cases hc18 : b_8_l2 ≤ n_1
    · rw [if_pos hc18] at h
      refine Go.condT rfl (iDec.2 hc18) ?_
      refine Go.skip ?_
      refine Unw.seq ?_
      refine Go.block ?_
      refine Go.seq ?_
      obtain ⟨x18, hx18, h⟩ := bs h
      refine Go.r0 c241 rfl rfl (sq z241 (oMv rfl rfl) <| sq z241 (oMv rfl rfl) <| sq z241 (oMv rfl rfl) <| sq z241 (oMv rfl rfl) <| sq z241 (oCa (xs := [.v false [.own 0 0 0], .v false [.im 0 _], .v false [.im 0 _], .v false [.im 2 _]]) (vs := []) (v := .tup []) (L_slices_insertionSortCmpFunc_int_170 hx18) (.inl rfl) rfl kF272_267_3_3_269 rfl (ppC rfl (ppC rfl (ppC rfl (ppC rfl pp0)))) rfl rfl (pbO rfl rfl rfl rfl pb0) rfl rfl rfl) <| nl) ?_
      refine Unw.seq ?_
      refine Go.seq ?_
      refine Go.r1 c241 rfl rfl (st1 := mk [(0, .v false [.own 0 0 0]), (1, iv n_1), (2, .v false [.im 2 (.clo 170 [.cp [.row 1 (List.map eI fc2_0_0)] 0])]), (6, iv 20), (8, iv b_8_l2)] [(0, some ⟨0, 0, true, false, false, false, [⟨.sh, 0, 0, .row 1 (List.map eI x18)⟩]⟩)]) (by kernel_rfl) (sq z241 (oMv rfl rfl) <| sq z241 (oAsI rfl rfl) <| nl) ?_
      refine Unw.seq ?_
      refine Go.r0 c241 rfl rfl (sq z241 (oMv rfl rfl) <| sq z241 (oMv rfl rfl) <| sq z241 (oBi rfl rfl rfl rfl) <| sq z241 (oAsI rfl rfl) <| nl) ?_
      refine Unw.blk ?_
      refine Unw.nil ?_
      cases h
      exact ⟨rfl, (by kernel_rfl)⟩
    · rw [if_neg hc18] at h
      refine Go.condF rfl (byF iDec hc18) ?_
      refine Go.exit ?_
      refine Unw.seqx ?_
      refine Unw.nil ?_
      cases h
      exact ⟨rfl, (by kernel_rfl)⟩
  · rintro ⟨e, st⟩ hp
    obtain ⟨a_7_e0_2, data_o0_e0_2⟩ := o
    dsimp only at h
    obtain ⟨he, hst⟩ := hp
    obtain rfl : e = .exit 0 := he
    refine Unw.blkx ?_
    refine Unw.seq ?_
    refine Go.seq ?_
    obtain ⟨x27, hx27, h⟩ := bs h
    refine Go.r1 c241 rfl rfl hst (sq z241 (oMv rfl rfl) <| sq z241 (oMv rfl rfl) <| sq z241 (oMv rfl rfl) <| sq z241 (oMv rfl rfl) <| sq z241 (oCa (xs := [.v false [.own 0 0 0], .v false [.im 0 _], .v false [.im 0 _], .v false [.im 2 _]]) (vs := []) (v := .tup []) (L_slices_insertionSortCmpFunc_int_170 hx27) (.inl rfl) rfl kF272_267_3_3_269 rfl (ppC rfl (ppC rfl (ppC rfl (ppC rfl pp0)))) rfl rfl (pbO rfl rfl rfl rfl pb0) rfl rfl rfl) <| nl) ?_
    refine Unw.seq ?_
    refine Go.block ?_
    obtain ⟨o, hl, h⟩ := bs h
    refine Go.lp c241 rfl _ (fun (s : (Int × (List Int))) => match s with | (blockSize_6_l7, data_o0_l7) => mk [(0, .v false [.own 0 0 0]), (1, iv n_1), (2, .v false [.im 2 (.clo 170 [.cp [.row 1 (List.map eI fc2_0_0)] 0])]), (6, iv blockSize_6_l7)] [(0, some ⟨0, 0, true, false, false, false, [⟨.sh, 0, 0, .row 1 (List.map eI data_o0_l7)⟩]⟩)]) (fun (r2 : (List Int)) (p : Ex × St) => p.1 = .exit 2 ∧ fin Try.prog cfg 241 Try.f241 [.ow 1 (List.map eI data_0), .im 2 false [.sc (.int .i64 n_1)], .im 2 false [.clo 170 [.cp [.row 1 (List.map eI fc2_0_0)] 0]]] p.2 = some ([], [.ow 1 (List.map eI r2)])) hl (by kernel_rfl) ?_ ?_ ?_
    · intro o p hp e
      exact nomatch (hp.1.symm.trans e)
    · rintro ⟨blockSize_6_l7, data_o0_l7⟩ o h
      unfold slices_stableCmpFunc_int_l7 at h
      dsimp only at h
      refine Go.seq ?_
      refine Go.seq ?_
      refine Go.r0 c241 rfl rfl (sq z241 (oMv rfl rfl) <| sq z241 (oMv rfl rfl) <| sq z241 (oBi rfl rfl rfl rfl) <| nl) ?_
      refine Unw.seq ?_
      by_cases hc11 : blockSize_6_l7 < n_1
      · rw [if_pos hc11] at h
        refine Go.condT rfl (iDec.2 hc11) ?_
        refine Go.skip ?_
        refine Unw.seq ?_
        refine Go.block ?_
        refine Go.seq ?_
        refine Go.r0 c241 rfl rfl (sq z241 (oMv rfl rfl) <| sq z241 (oBi rfl rfl rfl rfl) <| sq z241 (oAsI rfl rfl) <| sq z241 (oAsI rfl rfl) <| nl) ?_
        refine Unw.seq ?_
        refine Go.seq ?_
        refine Go.block ?_
        obtain ⟨o, hl, h⟩ := bs h
        refine Go.lp c241 rfl _ (fun (s : (Int × Int × (List Int))) => match s with | (a_7_l9, b_8_l9, data_o0_l9) => mk [(0, .v false [.own 0 0 0]), (1, iv n_1), (2, .v false [.im 2 (.clo 170 [.cp [.row 1 (List.map eI fc2_0_0)] 0])]), (6, iv blockSize_6_l7), (7, iv a_7_l9), (8, iv b_8_l9)] [(0, some ⟨0, 0, true, false, false, false, [⟨.sh, 0, 0, .row 1 (List.map eI data_o0_l9)⟩]⟩)]) (fun (o : (Int × (List Int))) (p : Ex × St) => match o with | (a_7_e4_9, data_o0_e4_9) => p.1 = .exit 4 ∧ p.2.norm ([0, 1, 2, 6, 7], [0]) = mk [(0, .v false [.own 0 0 0]), (1, iv n_1), (2, .v false [.im 2 (.clo 170 [.cp [.row 1 (List.map eI fc2_0_0)] 0])]), (6, iv blockSize_6_l7), (7, iv a_7_e4_9)] [(0, some ⟨0, 0, true, false, false, false, [⟨.sh, 0, 0, .row 1 (List.map eI data_o0_e4_9)⟩]⟩)]) hl (by kernel_rfl) ?_ ?_ ?_
        · intro o p hp e
          obtain ⟨a_7_e4_9, data_o0_e4_9⟩ := o
          exact nomatch (hp.1.symm.trans e)
        · rintro ⟨a_7_l9, b_8_l9, data_o0_l9⟩ o h
          unfold slices_stableCmpFunc_int_l9 at h
          dsimp only at h
          refine Go.seq ?_
          refine Go.seq ?_
          refine Go.r0 c241 rfl rfl (sq z241 (oMv rfl rfl) <| sq z241 (oMv rfl rfl) <| sq z241 (oBi rfl rfl rfl rfl) <| nl) ?_
          refine Unw.seq ?_
          by_cases hc17 : b_8_l9 ≤ n_1
          · rw [if_pos hc17] at h
            refine Go.condT rfl (iDec.2 hc17) ?_
            refine Go.skip ?_
            refine Unw.seq ?_
            refine Go.block ?_
            refine Go.seq ?_
            obtain ⟨x43, hx43, h⟩ := bs h
            refine Go.r0 c241 rfl rfl (sq z241 (oMv rfl rfl) <| sq z241 (oMv rfl rfl) <| sq z241 (oMv rfl rfl) <| sq z241 (oMv rfl rfl) <| sq z241 (oBi rfl rfl rfl rfl) <| sq z241 (oMv rfl rfl) <| sq z241 (oMv rfl rfl) <| sq z241 (oCa (xs := [.v false [.own 0 0 0], .v false [.im 0 _], .v false [.im 0 _], .v false [.im 0 _], .v false [.im 2 _]]) (vs := []) (v := .tup []) (L_slices_symMergeCmpFunc_int_170 hx43) (.inl rfl) rfl kF273_267_3_3_3_269 rfl (ppC rfl (ppC rfl (ppC rfl (ppC rfl (ppC rfl pp0))))) rfl rfl (pbO rfl rfl rfl rfl pb0) rfl rfl rfl) <| nl) ?_
            refine Unw.seq ?_
            refine Go.seq ?_
            refine Go.r1 c241 rfl rfl (st1 := mk [(0, .v false [.own 0 0 0]), (1, iv n_1), (2, .v false [.im 2 (.clo 170 [.cp [.row 1 (List.map eI fc2_0_0)] 0])]), (6, iv blockSize_6_l7), (8, iv b_8_l9)] [(0, some ⟨0, 0, true, false, false, false, [⟨.sh, 0, 0, .row 1 (List.map eI x43)⟩]⟩)]) (by kernel_rfl) (sq z241 (oMv rfl rfl) <| sq z241 (oAsI rfl rfl) <| nl) ?_
            refine Unw.seq ?_
            refine Go.r0 c241 rfl rfl (sq z241 (oMv rfl rfl) <| sq z241 (oMv rfl rfl) <| sq z241 (oBi rfl rfl rfl rfl) <| sq z241 (oBi rfl rfl rfl rfl) <| sq z241 (oAsI rfl rfl) <| nl) ?_
            refine Unw.blk ?_
            refine Unw.nil ?_
            cases h
            exact ⟨rfl, (by kernel_rfl)⟩
          · rw [if_neg hc17] at h
            refine Go.condF rfl (byF iDec hc17) ?_
            refine Go.exit ?_
            refine Unw.seqx ?_
            refine Unw.nil ?_
            cases h
            exact ⟨rfl, (by kernel_rfl)⟩
        · rintro ⟨e, st⟩ hp
          obtain ⟨a_7_e4_9, data_o0_e4_9⟩ := o
          dsimp only at h
          obtain ⟨he, hst⟩ := hp
          obtain rfl : e = .exit 4 := he
          refine Unw.blkx ?_
          refine Unw.seq ?_
          refine Go.seq ?_
          refine Go.seq ?_
          refine Go.r1 c241 rfl rfl hst (sq z241 (oMv rfl rfl) <| sq z241 (oMv rfl rfl) <| sq z241 (oBi rfl rfl rfl rfl) <| sq z241 (oAsI rfl rfl) <| nl) ?_
          refine Unw.seq ?_
          refine Go.seq ?_
          refine Go.r0 c241 rfl rfl (sq z241 (oMv rfl rfl) <| sq z241 (oMv rfl rfl) <| sq z241 (oBi rfl rfl rfl rfl) <| nl) ?_
          refine Unw.seq ?_
          refine Go.join (fun st => ∃ data_o0_r16, slices_stableCmpFunc_int_k16 blockSize_6_l7 data_o0_r16 = some o ∧ st.norm ([0, 1, 2, 6], [0]) = mk [(0, .v false [.own 0 0 0]), (1, iv n_1), (2, .v false [.im 2 (.clo 170 [.cp [.row 1 (List.map eI fc2_0_0)] 0])]), (6, iv blockSize_6_l7)] [(0, some ⟨0, 0, true, false, false, false, [⟨.sh, 0, 0, .row 1 (List.map eI data_o0_r16)⟩]⟩)]) ?_ ?_
          · rintro st ⟨data_o0_r16, h, hst⟩
            unfold slices_stableCmpFunc_int_k16 at h
            refine Unw.seq ?_
            refine Go.r1 c241 rfl rfl hst (sq z241 (oMv rfl rfl) <| sq z241 (oBi rfl rfl rfl rfl) <| sq z241 (oAsI rfl rfl) <| nl) ?_
            refine Unw.blk ?_
            refine Unw.nil ?_
            cases h
            exact ⟨rfl, (by kernel_rfl)⟩
          · intro K15
            by_cases hc16 : (w64 (a_7_e4_9 + blockSize_6_l7)) < n_1
            · rw [if_pos hc16] at h
              refine Go.condT rfl (iDec.2 hc16) ?_
              obtain ⟨x60, hx60, h⟩ := bs h
              refine Go.r0 c241 rfl rfl (sq z241 (oMv rfl rfl) <| sq z241 (oMv rfl rfl) <| sq z241 (oMv rfl rfl) <| sq z241 (oMv rfl rfl) <| sq z241 (oMv rfl rfl) <| sq z241 (oCa (xs := [.v false [.own 0 0 0], .v false [.im 0 _], .v false [.im 0 _], .v false [.im 0 _], .v false [.im 2 _]]) (vs := []) (v := .tup []) (L_slices_symMergeCmpFunc_int_170 hx60) (.inl rfl) rfl kF273_267_3_3_3_269 rfl (ppC rfl (ppC rfl (ppC rfl (ppC rfl (ppC rfl pp0))))) rfl rfl (pbO rfl rfl rfl rfl pb0) rfl rfl rfl) <| nl) ?_
              exact K15 _ ⟨x60, h, (by kernel_rfl)⟩
            · rw [if_neg hc16] at h
              refine Go.condF rfl (byF iDec hc16) ?_
              refine Go.skip ?_
              exact K15 _ ⟨data_o0_e4_9, h, (by kernel_rfl)⟩
      · rw [if_neg hc11] at h
        refine Go.condF rfl (byF iDec hc11) ?_
        refine Go.exit ?_
        refine Unw.seqx ?_
        refine Unw.nil ?_
        cases h
        exact ⟨rfl, (fin_of rfl rF241 rfl (by kernel_rfl))⟩
    · rintro ⟨e, st⟩ hp
      obtain ⟨r2, rfl⟩ : ∃ y, y = o := ⟨o, rfl⟩
      obtain ⟨he, hfin⟩ := hp
      obtain rfl : e = .exit 2 := he
      cases h
      refine Unw.blkx ?_
      exact Unw.nil (Fin_end hfin)
theorem L_slices_SortStableFunc_int_int_170 {x_0 : (List Int)} {fc1_0_0 : (List Int)} {r : (List Int)} (h : slices_SortStableFunc_int_int x_0 (fun b0 b1 => impl_DecreasingBlades_c1 b0 b1 fc1_0_0) = some r) : FL Try.prog cfg 169 [.ow 1 (List.map eI x_0), .im 2 false [.clo 170 [.cp [.row 1 (List.map eI fc1_0_0)] 0]]] = some ([], [.ow 1 (List.map eI r)]) := by
  unfold slices_SortStableFunc_int_int at h
  refine FL_goS (A := [(0, .v false [.own 0 0 0]), (1, .v false [.im 2 (.clo 170 [.cp [.row 1 (List.map eI fc1_0_0)] 0])])]) (B := [(0, some ⟨0, 0, true, false, false, false, [⟨.sh, 0, 0, .row 1 (List.map eI x_0)⟩]⟩), (1, none)]) (nt := 9) rfl rfl Try.func169 rfl rfl rfl rfl ?_
  obtain ⟨x8, hx8, h⟩ := bs h
  refine Go.r0 c169 rfl rfl (sq z169 (oMv rfl rfl) <| sq z169 (oMv rfl rfl) <| sq z169 (oLnO rfl rfl uF267 rfl rfl rfl (fun e => nomatch e)) <| sq z169 (oMv rfl rfl) <| sq z169 (oCa (xs := [.v false [.own 0 0 0], .v false [.im 0 _], .v false [.im 2 _]]) (vs := []) (v := .tup []) (L_slices_stableCmpFunc_int_170 hx8) (.inl rfl) rfl kF241_267_3_269 rfl (ppC rfl (ppC rfl (ppC rfl pp0))) rfl rfl (pbO rfl rfl rfl rfl pb0) rfl rfl rfl) <| nl) ?_
  refine Unw.nil ?_
  cases h
  exact Fin_end (fin_of rfl rF169 rfl (by kernel_rfl))
theorem L_impl_DecreasingBlades_c2 {u_0 : Int} {cap0_0 : (List Int)} {cap1_0 : Int} {cap2_0 : ByteArray} {cap2_1 : Int} {cap2_2 : Int} {cap2_3 : Int} {r : Bool} (h : impl_DecreasingBlades_c2 u_0 cap0_0 cap1_0 cap2_0 cap2_1 cap2_2 cap2_3 = some r) : FL Try.prog cfg 171 [.im 2 false [.sc (.int .i64 u_0)], .im 2 false [.cp [.row 1 (List.map eI cap0_0)] 0], .im 2 false [.cp [.sc (.int .i64 cap1_0)] 0], .im 2 false [.cp [.sc (.string cap2_0), .sc (.int .i64 cap2_1), .sc (.int .i64 cap2_2), .sc (.int .i64 cap2_3)] 0]] = some ([(false, [.im 0 (.sc (.bool r))])], []) := by
  unfold impl_DecreasingBlades_c2 at h
  refine FL_goS (A := [(0, .v false [.im 2 (.sc (.int .i64 u_0))]), (1, .v false [.im 2 (.cp [.row 1 (List.map eI cap0_0)] 0)]), (2, .v false [.im 2 (.cp [.sc (.int .i64 cap1_0)] 0)]), (3, .v false [.im 2 (.cp [.sc (.string cap2_0), .sc (.int .i64 cap2_1), .sc (.int .i64 cap2_2), .sc (.int .i64 cap2_3)] 0)])]) (B := [(0, none), (1, none), (2, none), (3, none)]) (nt := 15) rfl rfl Try.func171 rfl rfl rfl rfl ?_
  refine Go.seq ?_
  refine Go.r0 c171 rfl rfl (sq z171 (oAsI rfl rfl) <| nl) ?_
  refine Unw.seq ?_
  refine Go.seq ?_
  obtain ⟨x9, hx9, h⟩ := bs h
  refine Go.dr c171 rfl rfl rfl rfl (mk [(5, bv (decide ((w64 (u_0 + x9)) ≤ cap2_1)))] []) (sT rfl (dN z171 rfl (oMv rfl rfl)) <| sT rfl (dN z171 rfl (oLd (cs := [.im 2 _]) rfl tF27 rfl rfl)) <| sT rfl (dN z171 rfl (oLd (cs := [.im 2 _]) rfl tF3 rfl rfl)) <| sT rfl (dN z171 rfl (oIAI rfl hx9 sF27 rfl rfl)) <| sT rfl (dN z171 rfl (oLd (cs := [.im 2 _]) rfl tF2 rfl rfl)) <| sT rfl (dN z171 rfl (oBi rfl rfl rfl rfl)) <| sT rfl (dN z171 rfl (oFA (r' := .im 2 _) rfl fF54_1 rfl rfl)) <| sT rfl (dN z171 rfl (oLd (cs := [.im 2 _]) rfl tF2 rfl rfl)) <| sT rfl (dN z171 rfl (oBi rfl rfl rfl rfl)) <| sS (dN z171 rfl (oAsI rfl rfl)) trivial (sD (by kernel_rfl))) ?_
  refine Unw.seq ?_
  refine Go.ret (Unw.ret ?_)
  cases h
  exact Fin_ret (fin_of rfl rF171 rfl (by kernel_rfl))
theorem L_slices_IndexFunc_int64_int64_171 {s_0 : (List Int)} {fc1_0_0 : (List Int)} {fc1_1_0 : Int} {fc1_2_0 : ByteArray} {fc1_2_1 : Int} {fc1_2_2 : Int} {fc1_2_3 : Int} {r : Int} (h : slices_IndexFunc_int64_int64 s_0 (fun b0 => impl_DecreasingBlades_c2 b0 fc1_0_0 fc1_1_0 fc1_2_0 fc1_2_1 fc1_2_2 fc1_2_3) = some r) : FL Try.prog cfg 150 [.im 2 false [.row 1 (List.map eI s_0)], .im 2 false [.clo 171 [.cp [.row 1 (List.map eI fc1_0_0)] 0, .cp [.sc (.int .i64 fc1_1_0)] 0, .cp [.sc (.string fc1_2_0), .sc (.int .i64 fc1_2_1), .sc (.int .i64 fc1_2_2), .sc (.int .i64 fc1_2_3)] 0]]] = some ([(false, [.im 0 (.sc (.int .i64 r))])], []) := by
  unfold slices_IndexFunc_int64_int64 at h
  refine FL_goS (A := [(0, .v false [.im 2 (.row 1 (List.map eI s_0))]), (1, .v false [.im 2 (.clo 171 [.cp [.row 1 (List.map eI fc1_0_0)] 0, .cp [.sc (.int .i64 fc1_1_0)] 0, .cp [.sc (.string fc1_2_0), .sc (.int .i64 fc1_2_1), .sc (.int .i64 fc1_2_2), .sc (.int .i64 fc1_2_3)] 0])])]) (B := [(0, none), (1, none)]) (nt := 19) rfl rfl Try.func150 rfl rfl rfl rfl ?_
  refine Go.seq ?_
  refine Go.r0 c150 rfl rfl (sq z150 (oAsI rfl rfl) <| nl) ?_
  refine Unw.seq ?_
  refine Go.seq ?_
  refine Go.seq ?_
  refine Go.r0 c150 rfl rfl (sq z150 (oMv rfl rfl) <| sq z150 (oLnI rfl rfl uF27 rfl) <| sq z150 (oMv rfl rfl) <| nl) ?_
  refine Unw.seq ?_
  refine Go.block ?_
  obtain ⟨o, hl, h⟩ := bs h
  refine Go.lp c150 rfl _ (fun (t_8_l2 : Int) => mk [(0, .v false [.im 2 (.row 1 (List.map eI s_0))]), (1, .v false [.im 2 (.clo 171 [.cp [.row 1 (List.map eI fc1_0_0)] 0, .cp [.sc (.int .i64 fc1_1_0)] 0, .cp [.sc (.string fc1_2_0), .sc (.int .i64 fc1_2_1), .sc (.int .i64 fc1_2_2), .sc (.int .i64 fc1_2_3)] 0])]), (7, iv (s_0.length : Int)), (8, iv t_8_l2)] []) (fun (o : (Unit ⊕ Int)) (p : Ex × St) => match o with | (.inl _) => p.1 = .exit 0 ∧ p.2.norm ([], []) = mk [] [] | (.inr r2) => p.1 = .ret ∧ fin Try.prog cfg 150 Try.f150 [.im 2 false [.row 1 (List.map eI s_0)], .im 2 false [.clo 171 [.cp [.row 1 (List.map eI fc1_0_0)] 0, .cp [.sc (.int .i64 fc1_1_0)] 0, .cp [.sc (.string fc1_2_0), .sc (.int .i64 fc1_2_1), .sc (.int .i64 fc1_2_2), .sc (.int .i64 fc1_2_3)] 0]]] p.2 = some ([(false, [.im 0 (.sc (.int .i64 r2))])], [])) hl (by kernel_rfl) ?_ ?_ ?_
  · intro o p hp e
    rcases o with u | r2 <;> exact nomatch (hp.1.symm.trans e)
  · rintro t_8_l2 o h
    unfold slices_IndexFunc_int64_int64_l2 at h
    refine Go.seq ?_
    refine Go.r0 c150 rfl rfl (sq z150 (oBi rfl rfl rfl rfl) <| nl) ?_
    refine Unw.seq ?_
    refine Go.seq ?_
    by_cases hc5 : t_8_l2 < (s_0.length : Int)
    · rw [if_pos hc5] at h
      refine Go.condT rfl (iDec.2 hc5) ?_
      refine Go.skip ?_
      refine Unw.seq ?_
      refine Go.seq ?_
      refine Go.block ?_
      refine Go.seq ?_
      refine Go.r0 c150 rfl rfl (sq z150 (oMv rfl rfl) <| sq z150 (oAsI rfl rfl) <| nl) ?_
      refine Unw.seq ?_
      refine Go.seq ?_
      obtain ⟨x14, hx14, h⟩ := bs h
      obtain ⟨x16, hx16, h⟩ := bs h
      refine Go.r0 c150 rfl rfl (sq z150 (oMv rfl rfl) <| sq z150 (oMv rfl rfl) <| sq z150 (oMv rfl rfl) <| sq z150 (oIAI rfl hx14 sF27 rfl rfl) <| sq z150 (oLd (cs := [.im 2 _]) rfl tF2 rfl rfl) <| sq z150 (oCa (xs := [.v false [.im 2 _], .v false [.im 2 _], .v false [.im 2 _], .v false [.im 2 _]]) (vs := [(false, [.im 0 _])]) (v := .v false [.im 0 _]) (L_impl_DecreasingBlades_c2 hx16) (.inr ⟨_, _, rfl, rfl⟩) rfl kF171_2_0_0_0 rfl (ppC rfl (ppC rfl (ppC rfl (ppC rfl pp0)))) rfl rfl pb0 rfl rfl rfl) <| nl) ?_
      refine Unw.seq ?_
      by_cases hc6 : x16 = true
      · rw [if_pos hc6] at h
        refine Go.condT rfl (Iff.rfl.2 hc6) ?_
        refine Go.seq ?_
        refine Go.r0 c150 rfl rfl (sq z150 (oMv rfl rfl) <| sq z150 (oAsI rfl rfl) <| nl) ?_
        refine Unw.seq ?_
        refine Go.ret (Unw.ret ?_)
        cases h
        exact ⟨rfl, (fin_of rfl rF150 rfl (by kernel_rfl))⟩
      · rw [if_neg hc6] at h
        refine Go.condF rfl (byF Iff.rfl hc6) ?_
        refine Go.skip ?_
        refine Unw.blk ?_
        refine Unw.seq ?_
        refine Go.r0 c150 rfl rfl (sq z150 (oBi rfl rfl rfl rfl) <| sq z150 (oMv rfl rfl) <| nl) ?_
        refine Unw.nil ?_
        cases h
        exact ⟨rfl, (by kernel_rfl)⟩
    · rw [if_neg hc5] at h
      refine Go.condF rfl (byF iDec hc5) ?_
      refine Go.exit ?_
      refine Unw.seqx ?_
      refine Unw.nil ?_
      cases h
      exact ⟨rfl, (by kernel_rfl)⟩
  · rintro ⟨e, st⟩ hp
    rcases o with u | r2
    · dsimp only at h
      obtain ⟨he, hst⟩ := hp
      obtain rfl : e = .exit 0 := he
      refine Unw.blkx ?_
      refine Unw.seq ?_
      refine Go.seq ?_
      refine Go.r1 c150 rfl rfl hst (sq z150 (oAsI rfl rfl) <| nl) ?_
      refine Unw.seq ?_
      refine Go.ret (Unw.ret ?_)
      cases h
      exact Fin_ret (fin_of rfl rF150 rfl (by kernel_rfl))
    · dsimp only at h
      obtain ⟨he, hfin⟩ := hp
      obtain rfl : e = .ret := he
      cases h
      exact Unw.ret (Fin_ret hfin)
theorem L_impl_DecreasingBlades {b_0 : S_Blade} {list_1 : (List S_Cutting)} {r : ((List Int) × Int × Int)} (h : impl_DecreasingBlades b_0 list_1 = some r) : FL Try.prog cfg 76 [.im 2 true [.sc (.string b_0.Name), .sc (.int .i64 b_0.Life), .sc (.int .i64 b_0.Price), .sc (.int .i64 b_0.Speed)], .im 2 false [.row 3 (List.map e_S_Cutting list_1)]] = some ([(false, [.ow 0 1 (List.map eI r.1)]), (false, [.im 0 (.sc (.int .i64 r.2.1))]), (false, [.im 0 (.sc (.int .i64 r.2.2))])], []) := by
  unfold impl_DecreasingBlades at h
  refine FL_goS (A := [(0, .v true [.im 2 (.sc (.string b_0.Name)), .im 2 (.sc (.int .i64 b_0.Life)), .im 2 (.sc (.int .i64 b_0.Price)), .im 2 (.sc (.int .i64 b_0.Speed))]), (1, .v false [.im 2 (.row 3 (List.map e_S_Cutting list_1))])]) (B := [(0, none), (1, none)]) (nt := 77) rfl rfl Try.func76 rfl rfl rfl rfl ?_
  refine Go.seq ?_
  refine Go.r0 c76 rfl rfl (sq z76 (oBx rfl tF54 rfl (tkI (tkI (tkI (tkI tk0))))) <| sq z76 (oAsN rfl rfl eF27) <| sq z76 (oAsI rfl rfl) <| sq z76 (oAsI rfl rfl) <| nl) ?_
  refine Unw.seq ?_
  refine Go.seq ?_
  obtain ⟨x19, hx19, h⟩ := bs h
  refine Go.r0 c76 rfl rfl (sq z76 (oLd (cs := [.im 0 _, .im 0 _, .im 0 _, .im 0 _]) rfl tF54 rfl rfl) <| sq z76 (oMv rfl rfl) <| sq z76 (oCr (xs := [.v true [.im 0 _, .im 0 _, .im 0 _, .im 0 _], .v false [.im 2 _]]) (vs := [(false, [.own 19 0 0]), (false, [.im 0 _])]) (v := .tup [(false, [.own 19 0 0]), (false, [.im 0 _])]) (c := ⟨.sh, 0, _⟩) (cs := []) (L_impl_wears hx19) (.inl rfl) rfl kF114_54_56 rfl (ppC rfl (ppC rfl pp0)) rfl rfl pb0 rfl rfl rfl) <| sq z76 (oMvT rfl rfl) <| sq z76 (oEx rfl rfl rfl) <| sq z76 (oEx rfl rfl rfl) <| sq z76 (oAl rfl tF27 (tkN tk0)) <| sq z76 (oSt tF27 rfl rfl rfl (tkO rfl rfl tk0) rfl rfl rfl) <| sq z76 (oAsI rfl rfl) <| nl) ?_
  refine Unw.seq ?_
  refine Go.seq ?_
  refine Go.seq ?_
  refine Go.r1 c76 rfl rfl (st1 := mk [(2, .v false [.mp 2 0 0]), (7, .v false [.mp 7 0 0]), (8, iv x19.2)] [(2, some ⟨0, 0, false, true, false, true, [⟨.imm, 0, 0, .sc (.string b_0.Name)⟩, ⟨.imm, 0, 0, .sc (.int .i64 b_0.Life)⟩, ⟨.imm, 0, 0, .sc (.int .i64 b_0.Price)⟩, ⟨.imm, 0, 0, .sc (.int .i64 b_0.Speed)⟩]⟩), (7, some ⟨0, 0, false, true, false, false, [⟨.sh, 0, 0, .row 1 (List.map eI x19.1)⟩]⟩)]) (by kernel_rfl) (sq z76 (oMv rfl rfl) <| sq z76 (oBi rfl rfl rfl rfl) <| nl) ?_
  refine Unw.seq ?_
  by_cases hc1 : x19.2 ≠ 0
  · rw [if_pos hc1] at h
    refine Go.condT rfl (iNe.2 hc1) ?_
    refine Go.seq ?_
    refine Go.r0 c76 rfl rfl (sq z76 (oMv rfl rfl) <| sq z76 (oAsN rfl rfl eF27) <| sq z76 (oAsI rfl rfl) <| sq z76 (oAsI rfl rfl) <| nl) ?_
    refine Unw.seq ?_
    refine Go.ret (Unw.ret ?_)
    cases h
    exact Fin_ret (fin_of rfl rF76 rfl (by kernel_rfl))
  · rw [if_neg hc1] at h
    refine Go.condF rfl (byF iNe hc1) ?_
    refine Go.skip ?_
    refine Unw.seq ?_
    refine Go.seq ?_
    refine Go.r0 c76 rfl rfl (sq z76 (oBS (es := List.map eI ([] : List Int)) rfl sF267 rfl pt0 (flat0 rfl fun _ => rfl)) <| sq z76 (oAsO rfl rfl rfl rfl rfl) <| nl) ?_
    refine Unw.seq ?_
    refine Go.seq ?_
    refine Go.seq ?_
    refine Go.r0 c76 rfl rfl (sq z76 (oLd (cs := [.own 7 0 0]) rfl tF27 rfl rfl) <| sq z76 (oLnO rfl rfl uF27 rfl rfl rfl (fun e => nomatch e)) <| sq z76 (oMv rfl rfl) <| nl) ?_
    refine Unw.seq ?_
    refine Go.block ?_
    obtain ⟨o, hl, h⟩ := bs h
    refine Go.lp c76 rfl _ (fun (s : (Int × (List Int))) => match s with | (t_28_l6, order_o9_l6) => mk [(2, .v false [.mp 2 0 0]), (7, .v false [.mp 7 0 0]), (9, .v false [.own 9 0 0]), (27, iv (x19.1.length : Int)), (28, iv t_28_l6)] [(2, some ⟨0, 0, false, true, false, true, [⟨.imm, 0, 0, .sc (.string b_0.Name)⟩, ⟨.imm, 0, 0, .sc (.int .i64 b_0.Life)⟩, ⟨.imm, 0, 0, .sc (.int .i64 b_0.Price)⟩, ⟨.imm, 0, 0, .sc (.int .i64 b_0.Speed)⟩]⟩), (7, some ⟨0, 0, false, true, false, false, [⟨.sh, 0, 0, .row 1 (List.map eI x19.1)⟩]⟩), (9, some ⟨0, 0, false, false, false, false, [⟨.sh, 0, 0, .row 1 (List.map eI order_o9_l6)⟩]⟩)]) (fun (order_o9_e0_6 : (List Int)) (p : Ex × St) => p.1 = .exit 0 ∧ p.2.norm ([2, 7, 9], [2, 7, 9]) = mk [(2, .v false [.mp 2 0 0]), (7, .v false [.mp 7 0 0]), (9, .v false [.own 9 0 0])] [(2, some ⟨0, 0, false, true, false, true, [⟨.imm, 0, 0, .sc (.string b_0.Name)⟩, ⟨.imm, 0, 0, .sc (.int .i64 b_0.Life)⟩, ⟨.imm, 0, 0, .sc (.int .i64 b_0.Price)⟩, ⟨.imm, 0, 0, .sc (.int .i64 b_0.Speed)⟩]⟩), (7, some ⟨0, 0, false, true, false, false, [⟨.sh, 0, 0, .row 1 (List.map eI x19.1)⟩]⟩), (9, some ⟨0, 0, false, false, false, false, [⟨.sh, 0, 0, .row 1 (List.map eI order_o9_e0_6)⟩]⟩)]) hl (by kernel_rfl) ?_ ?_ ?_
    · intro o p hp e
      exact nomatch (hp.1.symm.trans e)
    · rintro ⟨t_28_l6, order_o9_l6⟩ o h
      unfold impl_DecreasingBlades_l6 at h
      dsimp only at h
      refine Go.seq ?_
      refine Go.r0 c76 rfl rfl (sq z76 (oBi rfl rfl rfl rfl) <| nl) ?_
      refine Unw.seq ?_
      refine Go.seq ?_
      by_cases hc12 : t_28_l6 < (x19.1.length : Int)
      · rw [if_pos hc12] at h
        refine Go.condT rfl (iDec.2 hc12) ?_
        refine Go.skip ?_
        refine Unw.seq ?_
        refine Go.seq ?_
        refine Go.block ?_
        refine Go.seq ?_
        refine Go.r0 c76 rfl rfl (sq z76 (oMv rfl rfl) <| sq z76 (oAsI rfl rfl) <| nl) ?_
        refine Unw.seq ?_
        obtain ⟨x34, hx34, h⟩ := bs h
        refine Go.r0 c76 rfl rfl (sq z76 (oMv rfl rfl) <| sq z76 (oMv rfl rfl) <| sq z76 (oBS (es := List.map eI ([t_28_l6] : List Int)) rfl sF267 rfl (ptC rfl (fxI fx0) rfl pt0) (flat0 rfl fun _ => rfl)) <| sq z76 (oApO (en := eI) (M := ([t_28_l6] : List Int)) rfl hx34 rfl sF267 rfl rfl uF267 (.inl ⟨_, rfl⟩) rfl rfl rfl rfl (el_own rfl rfl) (flat0 rfl fun _ => rfl)) <| sq z76 (oAsO rfl rfl rfl rfl rfl) <| nl) ?_
        refine Unw.blk ?_
        refine Unw.seq ?_
        refine Go.r0 c76 rfl rfl (sq z76 (oBi rfl rfl rfl rfl) <| sq z76 (oMv rfl rfl) <| nl) ?_
        refine Unw.nil ?_
        cases h
        exact ⟨rfl, (by kernel_rfl)⟩
      · rw [if_neg hc12] at h
        refine Go.condF rfl (byF iDec hc12) ?_
        refine Go.exit ?_
        refine Unw.seqx ?_
        refine Unw.nil ?_
        cases h
        exact ⟨rfl, (by kernel_rfl)⟩
    · rintro ⟨e, st⟩ hp
      obtain ⟨order_o9_e0_6, rfl⟩ : ∃ y, y = o := ⟨o, rfl⟩
      obtain ⟨he, hst⟩ := hp
      obtain rfl : e = .exit 0 := he
      refine Unw.blkx ?_
      refine Unw.seq ?_
      refine Go.seq ?_
      obtain ⟨x38, hx38, h⟩ := bs h
      refine Go.r1 c76 rfl rfl hst (sq z76 (oMv rfl rfl) <| sq z76 (oMF (rs := [.mp 7 0 0]) rfl rfl) <| sq z76 (oCa (xs := [.v false [.own 9 0 0], .fn 170 [.mp 7 0 0]]) (vs := []) (v := .tup []) (L_slices_SortStableFunc_int_int_170 hx38) (.inl rfl) rfl kF169_267_269 rfl (ppC rfl (ppC rfl pp0)) rfl rfl (pbO rfl rfl rfl rfl pb0) rfl rfl rfl) <| nl) ?_
      refine Unw.seq ?_
      refine Go.seq ?_
      obtain ⟨x41, hx41, h⟩ := bs h
      refine Go.r1 c76 rfl rfl (st1 := mk [(2, .v false [.mp 2 0 0]), (7, .v false [.mp 7 0 0]), (9, .v false [.own 9 0 0])] [(2, some ⟨0, 0, false, true, false, true, [⟨.imm, 0, 0, .sc (.string b_0.Name)⟩, ⟨.imm, 0, 0, .sc (.int .i64 b_0.Life)⟩, ⟨.imm, 0, 0, .sc (.int .i64 b_0.Price)⟩, ⟨.imm, 0, 0, .sc (.int .i64 b_0.Speed)⟩]⟩), (7, some ⟨0, 0, false, true, false, false, [⟨.sh, 0, 0, .row 1 (List.map eI x19.1)⟩]⟩), (9, some ⟨0, 0, false, false, false, false, [⟨.sh, 0, 0, .row 1 (List.map eI x38)⟩]⟩)]) (by kernel_rfl) (sq z76 (oLd (cs := [.own 7 0 0]) rfl tF27 rfl rfl) <| sq z76 (oLnO rfl rfl uF27 rfl rfl rfl (fun e => nomatch e)) <| sq z76 (oMk (en := eI) rfl hx41 rfl sF27 rfl rfl (fxI fx0) rfl (flat0 (L := [_]) rfl fun _ => rfl)) <| sq z76 (oBS (es := List.map eI ([] : List Int)) rfl sF27 rfl pt0 (flat0 rfl fun _ => rfl)) <| sq z76 (oAsO rfl rfl rfl rfl rfl) <| sq z76 (oAsO rfl rfl rfl rfl rfl) <| nl) ?_
      refine Unw.seq ?_
      refine Go.seq ?_
      refine Go.seq ?_
      refine Go.r0 c76 rfl rfl (sq z76 (oMv rfl rfl) <| sq z76 (oLnO rfl rfl uF267 rfl rfl rfl (fun e => nomatch e)) <| sq z76 (oMv rfl rfl) <| nl) ?_
      refine Unw.seq ?_
      refine Go.block ?_
      obtain ⟨o, hl, h⟩ := bs h
      refine Go.lp c76 rfl _ (fun (s : (Int × (List Int) × (List Int))) => match s with | (t_45_l13, out_o11_l13, used_o12_l13) => mk [(2, .v false [.mp 2 0 0]), (7, .v false [.mp 7 0 0]), (11, .v false [.own 11 0 0]), (12, .v false [.own 12 0 0]), (43, .v false [.own 9 0 0]), (44, iv (x38.length : Int)), (45, iv t_45_l13)] [(2, some ⟨0, 0, false, true, false, true, [⟨.imm, 0, 0, .sc (.string b_0.Name)⟩, ⟨.imm, 0, 0, .sc (.int .i64 b_0.Life)⟩, ⟨.imm, 0, 0, .sc (.int .i64 b_0.Price)⟩, ⟨.imm, 0, 0, .sc (.int .i64 b_0.Speed)⟩]⟩), (7, some ⟨0, 0, false, true, false, false, [⟨.sh, 0, 0, .row 1 (List.map eI x19.1)⟩]⟩), (9, some ⟨0, 0, false, false, false, false, [⟨.sh, 0, 0, .row 1 (List.map eI x38)⟩]⟩), (11, some ⟨0, 0, false, false, false, false, [⟨.sh, 0, 0, .row 1 (List.map eI out_o11_l13)⟩]⟩), (12, some ⟨0, 0, false, false, false, false, [⟨.sh, 0, 0, .row 1 (List.map eI used_o12_l13)⟩]⟩)]) (fun (o : ((List Int) × (List Int))) (p : Ex × St) => match o with | (out_o11_e2_13, used_o12_e2_13) => p.1 = .exit 2 ∧ p.2.norm ([11, 12], [11, 12]) = mk [(11, .v false [.own 11 0 0]), (12, .v false [.own 12 0 0])] [(11, some ⟨0, 0, false, false, false, false, [⟨.sh, 0, 0, .row 1 (List.map eI out_o11_e2_13)⟩]⟩), (12, some ⟨0, 0, false, false, false, false, [⟨.sh, 0, 0, .row 1 (List.map eI used_o12_e2_13)⟩]⟩)]) hl (by kernel_rfl) ?_ ?_ ?_
      · intro o p hp e
        obtain ⟨out_o11_e2_13, used_o12_e2_13⟩ := o
        exact nomatch (hp.1.symm.trans e)
      · rintro ⟨t_45_l13, out_o11_l13, used_o12_l13⟩ o h
        unfold impl_DecreasingBlades_l13 at h
        dsimp only at h
        refine Go.seq ?_
        refine Go.r0 c76 rfl rfl (sq z76 (oBi rfl rfl rfl rfl) <| nl) ?_
        refine Unw.seq ?_
        refine Go.seq ?_
        by_cases hc8 : t_45_l13 < (x38.length : Int)
        · rw [if_pos hc8] at h
          refine Go.condT rfl (iDec.2 hc8) ?_
          refine Go.skip ?_
          refine Unw.seq ?_
          refine Go.seq ?_
          refine Go.block ?_
          refine Go.seq ?_
          obtain ⟨x47, hx47, h⟩ := bs h
          refine Go.r0 c76 rfl rfl (sq z76 (oIAO rfl hx47 sF267 rfl rfl rfl rfl) <| sq z76 (oLdE (cs := [.im 0 _]) rfl tF3 rfl rfl rfl (fun e => nomatch e) (rd_get hx47) rfl rfl) <| sq z76 (oAl rfl tF3 (tkI tk0)) <| sq z76 (oSt tF3 rfl rfl rfl (tkI tk0) rfl rfl rfl) <| nl) ?_
          refine Unw.seq ?_
          refine Go.seq ?_
          obtain ⟨x51, hx51, h⟩ := bs h
          refine Go.r1 c76 rfl rfl (st1 := mk [(2, .v false [.mp 2 0 0]), (7, .v false [.mp 7 0 0]), (11, .v false [.own 11 0 0]), (12, .v false [.own 12 0 0]), (14, .v false [.mp 14 0 0]), (43, .v false [.own 9 0 0]), (44, iv (x38.length : Int)), (45, iv t_45_l13)] [(2, some ⟨0, 0, false, true, false, true, [⟨.imm, 0, 0, .sc (.string b_0.Name)⟩, ⟨.imm, 0, 0, .sc (.int .i64 b_0.Life)⟩, ⟨.imm, 0, 0, .sc (.int .i64 b_0.Price)⟩, ⟨.imm, 0, 0, .sc (.int .i64 b_0.Speed)⟩]⟩), (7, some ⟨0, 0, false, true, false, false, [⟨.sh, 0, 0, .row 1 (List.map eI x19.1)⟩]⟩), (9, some ⟨0, 0, false, false, false, false, [⟨.sh, 0, 0, .row 1 (List.map eI x38)⟩]⟩), (11, some ⟨0, 0, false, false, false, false, [⟨.sh, 0, 0, .row 1 (List.map eI out_o11_l13)⟩]⟩), (12, some ⟨0, 0, false, false, false, false, [⟨.sh, 0, 0, .row 1 (List.map eI used_o12_l13)⟩]⟩), (14, some ⟨0, 0, false, true, false, false, [⟨.imm, 0, 0, .sc (.int .i64 x47)⟩]⟩)]) (by kernel_rfl) (sq z76 (oMv rfl rfl) <| sq z76 (oMF (rs := [.mp 7 0 0, .mp 14 0 0, .mp 2 0 0]) rfl rfl) <| sq z76 (oCa (xs := [.v false [.own 12 0 0], .fn 171 [.mp 7 0 0, .mp 14 0 0, .mp 2 0 0]]) (vs := [(false, [.im 0 _])]) (v := .v false [.im 0 _]) (L_slices_IndexFunc_int64_int64_171 hx51) (.inl rfl) rfl kF150_27_139 rfl (ppC rfl (ppC rfl pp0)) rfl rfl pb0 rfl rfl rfl) <| sq z76 (oAsI rfl rfl) <| nl) ?_
          refine Unw.seq ?_
          refine Go.seq ?_
          refine Go.seq ?_
          refine Go.r0 c76 rfl rfl (sq z76 (oMv rfl rfl) <| sq z76 (oBi rfl rfl rfl rfl) <| nl) ?_
          refine Unw.seq ?_
          refine Go.join (fun st => ∃ k_15_r19, ∃ used_o12_r19, impl_DecreasingBlades_k19 out_o11_l13 t_45_l13 x19 x47 k_15_r19 used_o12_r19 = some o ∧ st.norm ([2, 7, 11, 12, 14, 15, 43, 44, 45], [2, 7, 9, 11, 12, 14]) = mk [(2, .v false [.mp 2 0 0]), (7, .v false [.mp 7 0 0]), (11, .v false [.own 11 0 0]), (12, .v false [.own 12 0 0]), (14, .v false [.mp 14 0 0]), (15, iv k_15_r19), (43, .v false [.own 9 0 0]), (44, iv (x38.length : Int)), (45, iv t_45_l13)] [(2, some ⟨0, 0, false, true, false, true, [⟨.imm, 0, 0, .sc (.string b_0.Name)⟩, ⟨.imm, 0, 0, .sc (.int .i64 b_0.Life)⟩, ⟨.imm, 0, 0, .sc (.int .i64 b_0.Price)⟩, ⟨.imm, 0, 0, .sc (.int .i64 b_0.Speed)⟩]⟩), (7, some ⟨0, 0, false, true, false, false, [⟨.sh, 0, 0, .row 1 (List.map eI x19.1)⟩]⟩), (9, some ⟨0, 0, false, false, false, false, [⟨.sh, 0, 0, .row 1 (List.map eI x38)⟩]⟩), (11, some ⟨0, 0, false, false, false, false, [⟨.sh, 0, 0, .row 1 (List.map eI out_o11_l13)⟩]⟩), (12, some ⟨0, 0, false, false, false, false, [⟨.sh, 0, 0, .row 1 (List.map eI used_o12_r19)⟩]⟩), (14, some ⟨0, 0, false, true, false, false, [⟨.imm, 0, 0, .sc (.int .i64 x47)⟩]⟩)]) ?_ ?_
          · rintro st ⟨k_15_r19, used_o12_r19, h, hst⟩
            unfold impl_DecreasingBlades_k19 at h
            refine Unw.seq ?_
            refine Go.seq ?_
            obtain ⟨x61, hx61, h⟩ := bs h
            obtain ⟨x65, hx65, h⟩ := bs h
            obtain ⟨x68, hx68, h⟩ := bs h
            refine Go.dr c76 rfl rfl rfl hst (mk [(2, .v false [.mp 2 0 0]), (7, .v false [.mp 7 0 0]), (11, .v false [.own 11 0 0]), (12, .v false [.own 12 0 0]), (14, .v false [.mp 14 0 0]), (15, iv k_15_r19), (43, .v false [.own 9 0 0]), (44, iv (x38.length : Int)), (45, iv t_45_l13)] [(2, some ⟨0, 0, false, true, false, true, [⟨.imm, 0, 0, .sc (.string b_0.Name)⟩, ⟨.imm, 0, 0, .sc (.int .i64 b_0.Life)⟩, ⟨.imm, 0, 0, .sc (.int .i64 b_0.Price)⟩, ⟨.imm, 0, 0, .sc (.int .i64 b_0.Speed)⟩]⟩), (7, some ⟨0, 0, false, true, false, false, [⟨.sh, 0, 0, .row 1 (List.map eI x19.1)⟩]⟩), (9, some ⟨0, 0, false, false, false, false, [⟨.sh, 0, 0, .row 1 (List.map eI x38)⟩]⟩), (11, some ⟨0, 0, false, false, false, false, [⟨.sh, 0, 0, .row 1 (List.map eI out_o11_l13)⟩]⟩), (12, some ⟨0, 0, false, false, false, false, [⟨.sh, 0, 0, .row 1 (List.map eI (used_o12_r19.set k_15_r19.toNat (w64 (x61 + x65))))⟩]⟩), (14, some ⟨0, 0, false, true, false, false, [⟨.imm, 0, 0, .sc (.int .i64 x47)⟩]⟩)]) (sT rfl (dN z76 rfl (oMv rfl rfl)) <| sT rfl (dN z76 rfl (oMv rfl rfl)) <| sT rfl (dN z76 rfl (oIAO rfl hx61 sF27 rfl rfl rfl rfl)) <| sT rfl (dN z76 rfl (oLdE (cs := [.im 0 _]) rfl tF2 rfl rfl rfl (fun e => nomatch e) (rd_get hx61) rfl rfl)) <| sT rfl (dN z76 rfl (oLd (cs := [.own 7 0 0]) rfl tF27 rfl rfl)) <| sT rfl (dN z76 rfl (oLd (cs := [.im 0 _]) rfl tF3 rfl rfl)) <| sT rfl (dN z76 rfl (oIAO rfl hx65 sF27 rfl rfl rfl rfl)) <| sT rfl (dN z76 rfl (oLdE (cs := [.im 0 _]) rfl tF2 rfl rfl rfl (fun e => nomatch e) (rd_get hx65) rfl rfl)) <| sT rfl (dN z76 rfl (oBi rfl rfl rfl rfl)) <| sT rfl (dN z76 rfl (oIAO rfl hx68 sF27 rfl rfl rfl rfl)) <| sS (dN z76 rfl (oStE (v' := (w64 (x61 + x65))) tF2 rfl rfl rfl (fxI fx0) rfl rfl (rd_get hx68) rfl)) trivial (sD (by kernel_rfl))) ?_
            refine Unw.seq ?_
            obtain ⟨x72, hx72, h⟩ := bs h
            refine Go.r0 c76 rfl rfl (sq z76 (oMv rfl rfl) <| sq z76 (oLd (cs := [.im 0 _]) rfl tF3 rfl rfl) <| sq z76 (oMv rfl rfl) <| sq z76 (oIAO rfl hx72 sF27 rfl rfl rfl rfl) <| sq z76 (oStE (v' := k_15_r19) tF2 rfl rfl rfl (fxI fx0) rfl rfl (rd_get hx72) rfl) <| nl) ?_
            refine Unw.blk ?_
            refine Unw.seq ?_
            refine Go.r1 c76 rfl rfl (st1 := mk [(2, .v false [.mp 2 0 0]), (7, .v false [.mp 7 0 0]), (11, .v false [.own 11 0 0]), (12, .v false [.own 12 0 0]), (43, .v false [.own 9 0 0]), (44, iv (x38.length : Int)), (45, iv t_45_l13)] [(2, some ⟨0, 0, false, true, false, true, [⟨.imm, 0, 0, .sc (.string b_0.Name)⟩, ⟨.imm, 0, 0, .sc (.int .i64 b_0.Life)⟩, ⟨.imm, 0, 0, .sc (.int .i64 b_0.Price)⟩, ⟨.imm, 0, 0, .sc (.int .i64 b_0.Speed)⟩]⟩), (7, some ⟨0, 0, false, true, false, false, [⟨.sh, 0, 0, .row 1 (List.map eI x19.1)⟩]⟩), (9, some ⟨0, 0, false, false, false, false, [⟨.sh, 0, 0, .row 1 (List.map eI x38)⟩]⟩), (11, some ⟨0, 0, false, false, false, false, [⟨.sh, 0, 0, .row 1 (List.map eI (out_o11_l13.set x47.toNat k_15_r19))⟩]⟩), (12, some ⟨0, 0, false, false, false, false, [⟨.sh, 0, 0, .row 1 (List.map eI (used_o12_r19.set k_15_r19.toNat (w64 (x61 + x65))))⟩]⟩)]) (by kernel_rfl) (sq z76 (oBi rfl rfl rfl rfl) <| sq z76 (oMv rfl rfl) <| nl) ?_
            refine Unw.nil ?_
            cases h
            exact ⟨rfl, (by kernel_rfl)⟩
          · intro K10
            by_cases hc11 : x51 < 0
            · rw [if_pos hc11] at h
              refine Go.condT rfl (iDec.2 hc11) ?_
              refine Go.seq ?_
              refine Go.r0 c76 rfl rfl (sq z76 (oMv rfl rfl) <| sq z76 (oLnO rfl rfl uF27 rfl rfl rfl (fun e => nomatch e)) <| sq z76 (oAsI rfl rfl) <| nl) ?_
              refine Unw.seq ?_
              obtain ⟨x58, hx58, h⟩ := bs h
              refine Go.r0 c76 rfl rfl (sq z76 (oMv rfl rfl) <| sq z76 (oBS (es := List.map eI ([0] : List Int)) rfl sF27 rfl (ptC rfl (fxI fx0) rfl pt0) (flat0 rfl fun _ => rfl)) <| sq z76 (oApO (en := eI) (M := ([0] : List Int)) rfl hx58 rfl sF27 rfl rfl uF27 (.inl ⟨_, rfl⟩) rfl rfl rfl rfl (el_own rfl rfl) (flat0 rfl fun _ => rfl)) <| sq z76 (oAsO rfl rfl rfl rfl rfl) <| nl) ?_
              exact K10 _ ⟨(used_o12_l13.length : Int), x58, h, (by kernel_rfl)⟩
            · rw [if_neg hc11] at h
              refine Go.condF rfl (byF iDec hc11) ?_
              refine Go.skip ?_
              exact K10 _ ⟨x51, used_o12_l13, h, (by kernel_rfl)⟩
        · rw [if_neg hc8] at h
          refine Go.condF rfl (byF iDec hc8) ?_
          refine Go.exit ?_
          refine Unw.seqx ?_
          refine Unw.nil ?_
          cases h
          exact ⟨rfl, (by kernel_rfl)⟩
      · rintro ⟨e, st⟩ hp
        obtain ⟨out_o11_e2_13, used_o12_e2_13⟩ := o
        dsimp only at h
        obtain ⟨he, hst⟩ := hp
        obtain rfl : e = .exit 2 := he
        refine Unw.blkx ?_
        refine Unw.seq ?_
        refine Go.seq ?_
        refine Go.r1 c76 rfl rfl hst (sq z76 (oMv rfl rfl) <| sq z76 (oMv rfl rfl) <| sq z76 (oLnO rfl rfl uF27 rfl rfl rfl (fun e => nomatch e)) <| sq z76 (oAsO rfl rfl rfl rfl rfl) <| sq z76 (oAsI rfl rfl) <| sq z76 (oAsI rfl rfl) <| nl) ?_
        refine Unw.seq ?_
        refine Go.ret (Unw.ret ?_)
        cases h
        exact Fin_ret (fin_of rfl rF76 rfl (by kernel_rfl))
theorem L_impl_sumOf {list_0 : (List Int)} {r : Int} (h : impl_sumOf list_0 = some r) : FL Try.prog cfg 173 [.im 2 false [.row 1 (List.map eI list_0)]] = some ([(false, [.im 0 (.sc (.int .i64 r))])], []) := by
  unfold impl_sumOf at h
  refine FL_goS (A := [(0, .v false [.im 2 (.row 1 (List.map eI list_0))])]) (B := [(0, none)]) (nt := 17) rfl rfl Try.func173 rfl rfl rfl rfl ?_
  refine Go.seq ?_
  refine Go.r0 c173 rfl rfl (sq z173 (oAsI rfl rfl) <| nl) ?_
  refine Unw.seq ?_
  refine Go.seq ?_
  refine Go.r0 c173 rfl rfl (sq z173 (oAsI rfl rfl) <| nl) ?_
  refine Unw.seq ?_
  refine Go.seq ?_
  refine Go.seq ?_
  refine Go.r0 c173 rfl rfl (sq z173 (oMv rfl rfl) <| sq z173 (oLnI rfl rfl uF27 rfl) <| sq z173 (oMv rfl rfl) <| nl) ?_
  refine Unw.seq ?_
  refine Go.block ?_
  obtain ⟨o, hl, h⟩ := bs h
  refine Go.lp c173 rfl _ (fun (s : (Int × Int)) => match s with | (sum_3_l3, t_8_l3) => mk [(3, iv sum_3_l3), (6, .v false [.im 2 (.row 1 (List.map eI list_0))]), (7, iv (list_0.length : Int)), (8, iv t_8_l3)] []) (fun (sum_3_e0_3 : Int) (p : Ex × St) => p.1 = .exit 0 ∧ p.2.norm ([3], []) = mk [(3, iv sum_3_e0_3)] []) hl (by kernel_rfl) ?_ ?_ ?_
  · intro o p hp e
    exact nomatch (hp.1.symm.trans e)
  · rintro ⟨sum_3_l3, t_8_l3⟩ o h
    unfold impl_sumOf_l3 at h
    dsimp only at h
    refine Go.seq ?_
    refine Go.r0 c173 rfl rfl (sq z173 (oBi rfl rfl rfl rfl) <| nl) ?_
    refine Unw.seq ?_
    refine Go.seq ?_
    by_cases hc3 : t_8_l3 < (list_0.length : Int)
    · rw [if_pos hc3] at h
      refine Go.condT rfl (iDec.2 hc3) ?_
      refine Go.skip ?_
      refine Unw.seq ?_
      refine Go.seq ?_
      refine Go.block ?_
      refine Go.seq ?_
      obtain ⟨x10, hx10, h⟩ := bs h
      refine Go.r0 c173 rfl rfl (sq z173 (oIAI rfl hx10 sF27 rfl rfl) <| sq z173 (oLd (cs := [.im 2 _]) rfl tF2 rfl rfl) <| sq z173 (oAsI rfl rfl) <| nl) ?_
      refine Unw.seq ?_
      refine Go.r0 c173 rfl rfl (sq z173 (oMv rfl rfl) <| sq z173 (oMv rfl rfl) <| sq z173 (oBi rfl rfl rfl rfl) <| sq z173 (oAsI rfl rfl) <| nl) ?_
      refine Unw.blk ?_
      refine Unw.seq ?_
      refine Go.r0 c173 rfl rfl (sq z173 (oBi rfl rfl rfl rfl) <| sq z173 (oMv rfl rfl) <| nl) ?_
      refine Unw.nil ?_
      cases h
      exact ⟨rfl, (by kernel_rfl)⟩
    · rw [if_neg hc3] at h
      refine Go.condF rfl (byF iDec hc3) ?_
      refine Go.exit ?_
      refine Unw.seqx ?_
      refine Unw.nil ?_
      cases h
      exact ⟨rfl, (by kernel_rfl)⟩
  · rintro ⟨e, st⟩ hp
    obtain ⟨sum_3_e0_3, rfl⟩ : ∃ y, y = o := ⟨o, rfl⟩
    obtain ⟨he, hst⟩ := hp
    obtain rfl : e = .exit 0 := he
    refine Unw.blkx ?_
    refine Unw.seq ?_
    refine Go.seq ?_
    refine Go.r1 c173 rfl rfl hst (sq z173 (oMv rfl rfl) <| sq z173 (oAsI rfl rfl) <| nl) ?_
    refine Unw.seq ?_
    refine Go.ret (Unw.ret ?_)
    cases h
    exact Fin_ret (fin_of rfl rF173 rfl (by kernel_rfl))
theorem L_impl_BladesBound {b_0 : S_Blade} {list_1 : (List S_Cutting)} {r : (Int × Int)} (h : impl_BladesBound b_0 list_1 = some r) : FL Try.prog cfg 77 [.im 2 true [.sc (.string b_0.Name), .sc (.int .i64 b_0.Life), .sc (.int .i64 b_0.Price), .sc (.int .i64 b_0.Speed)], .im 2 false [.row 3 (List.map e_S_Cutting list_1)]] = some ([(false, [.im 0 (.sc (.int .i64 r.1))]), (false, [.im 0 (.sc (.int .i64 r.2))])], []) := by
  unfold impl_BladesBound at h
  refine FL_goS (A := [(0, .v true [.im 2 (.sc (.string b_0.Name)), .im 2 (.sc (.int .i64 b_0.Life)), .im 2 (.sc (.int .i64 b_0.Price)), .im 2 (.sc (.int .i64 b_0.Speed))]), (1, .v false [.im 2 (.row 3 (List.map e_S_Cutting list_1))])]) (B := [(0, none), (1, none)]) (nt := 22) rfl rfl Try.func77 rfl rfl rfl rfl ?_
  refine Go.seq ?_
  refine Go.r0 c77 rfl rfl (sq z77 (oBx rfl tF54 rfl (tkI (tkI (tkI (tkI tk0))))) <| sq z77 (oAsI rfl rfl) <| sq z77 (oAsI rfl rfl) <| nl) ?_
  refine Unw.seq ?_
  refine Go.seq ?_
  obtain ⟨x11, hx11, h⟩ := bs h
  refine Go.r0 c77 rfl rfl (sq z77 (oLd (cs := [.im 0 _, .im 0 _, .im 0 _, .im 0 _]) rfl tF54 rfl rfl) <| sq z77 (oMv rfl rfl) <| sq z77 (oCr (xs := [.v true [.im 0 _, .im 0 _, .im 0 _, .im 0 _], .v false [.im 2 _]]) (vs := [(false, [.own 11 0 0]), (false, [.im 0 _])]) (v := .tup [(false, [.own 11 0 0]), (false, [.im 0 _])]) (c := ⟨.sh, 0, _⟩) (cs := []) (L_impl_wears hx11) (.inl rfl) rfl kF114_54_56 rfl (ppC rfl (ppC rfl pp0)) rfl rfl pb0 rfl rfl rfl) <| sq z77 (oMvT rfl rfl) <| sq z77 (oEx rfl rfl rfl) <| sq z77 (oEx rfl rfl rfl) <| sq z77 (oAsO rfl rfl rfl rfl rfl) <| sq z77 (oAsI rfl rfl) <| nl) ?_
  refine Unw.seq ?_
  refine Go.seq ?_
  refine Go.seq ?_
  refine Go.r0 c77 rfl rfl (sq z77 (oMv rfl rfl) <| sq z77 (oBi rfl rfl rfl rfl) <| nl) ?_
  refine Unw.seq ?_
  by_cases hc1 : x11.2 ≠ 0
  · rw [if_pos hc1] at h
    refine Go.condT rfl (iNe.2 hc1) ?_
    refine Go.seq ?_
    refine Go.r0 c77 rfl rfl (sq z77 (oMv rfl rfl) <| sq z77 (oAsI rfl rfl) <| sq z77 (oAsI rfl rfl) <| nl) ?_
    refine Unw.seq ?_
    refine Go.ret (Unw.ret ?_)
    cases h
    exact Fin_ret (fin_of rfl rF77 rfl (by kernel_rfl))
  · rw [if_neg hc1] at h
    refine Go.condF rfl (byF iNe hc1) ?_
    refine Go.skip ?_
    refine Unw.seq ?_
    refine Go.seq ?_
    obtain ⟨x18, hx18, h⟩ := bs h
    obtain ⟨x21, hx21, h⟩ := bs h
    refine Go.dr c77 rfl rfl rfl rfl (mk [(4, iv x21), (5, iv 0)] []) (sT rfl (dN z77 rfl (oMv rfl rfl)) <| sT rfl (dN z77 rfl (oFA (r' := .mp 2 0 1) rfl fF54_1 rfl rfl)) <| sT rfl (dN z77 rfl (oLd (cs := [.im 0 _]) rfl tF2 rfl rfl)) <| sS (dN z77 rfl (oCa (xs := [.v false [.own 6 0 0]]) (vs := [(false, [.im 0 _])]) (v := .v false [.im 0 _]) (L_impl_sumOf hx18) (.inl rfl) rfl kF173_27 rfl (ppC rfl pp0) rfl rfl pb0 rfl rfl rfl)) trivial (sS (dN z77 rfl (oCa (xs := [.v false [.im 0 _], .v false [.im 0 _]]) (vs := [(false, [.im 0 _])]) (v := .v false [.im 0 _]) (L_impl_upDiv hx21) (.inl rfl) rfl kF172_2_2 rfl (ppC rfl (ppC rfl pp0)) rfl rfl pb0 rfl rfl rfl)) trivial (sS (dN z77 rfl (oAsI rfl rfl)) trivial (sS (dN z77 rfl (oAsI rfl rfl)) trivial (sD (by kernel_rfl)))))) ?_
    refine Unw.seq ?_
    refine Go.ret (Unw.ret ?_)
    cases h
    exact Fin_ret (fin_of rfl rF77 rfl (by kernel_rfl))
theorem L_spec_l01Small {c_0 : Int} {r : Bool} (h : spec_l01Small c_0 = some r) : FL Try.prog cfg 276 [.im 2 false [.sc (.int .u8 c_0)]] = some ([(false, [.im 0 (.sc (.bool r))])], []) := by
  unfold spec_l01Small at h
  refine FL_goS (A := [(0, .v false [.im 2 (.sc (.int .u8 c_0))])]) (B := [(0, none)]) (nt := 9) rfl rfl Try.func276 rfl rfl rfl rfl ?_
  refine Go.seq ?_
  refine Go.r0 c276 rfl rfl (sq z276 (oAsI rfl rfl) <| nl) ?_
  refine Unw.seq ?_
  refine Go.seq ?_
  refine Go.rX c276 rfl rfl rfl (mk [(2, bv ((decide (c_0 ≥ 97)) && (decide (c_0 ≤ 122))))] []) ?_ ?_
  · by_cases hc1 : c_0 ≥ 97
    · exact ⟨_, sq z276 (oMv rfl rfl) <| sq z276 (oBi rfl rfl rfl rfl) <| sq z276 (oMv rfl rfl) <| sgT z276 rfl rfl (iDec.2 hc1) (oMv rfl rfl) <| sgT z276 rfl rfl (iDec.2 hc1) (oBi rfl rfl rfl rfl) <| sq z276 (oPkT rfl rfl (iDec.2 hc1) rfl) <| sq z276 (oAsI rfl rfl) <| nl, (Eq.trans (b := (fun t_2_m1 : Bool => mk [(2, bv t_2_m1)] []) (decide (c_0 ≤ 122))) (by kernel_rfl) (congrArg (fun t_2_m1 : Bool => mk [(2, bv t_2_m1)] []) (by first | rfl | (simp [(iDec.2 hc1)]; done) | (simp [(iDec.2 hc1)]; omega))))⟩
    · exact ⟨_, sq z276 (oMv rfl rfl) <| sq z276 (oBi rfl rfl rfl rfl) <| sq z276 (oMv rfl rfl) <| sgF rfl rfl (byF iDec hc1) rfl <| sgF rfl rfl (byF iDec hc1) rfl <| sq z276 (oPkF rfl rfl (byF iDec hc1) rfl) <| sq z276 (oAsI rfl rfl) <| nl, (Eq.trans (b := (fun t_2_m1 : Bool => mk [(2, bv t_2_m1)] []) false) (by kernel_rfl) (congrArg (fun t_2_m1 : Bool => mk [(2, bv t_2_m1)] []) (by first | rfl | (simp [(byF iDec hc1)]; done) | (simp [(byF iDec hc1)]; omega))))⟩
  · refine Unw.seq ?_
    refine Go.ret (Unw.ret ?_)
    cases h
    exact Fin_ret (fin_of rfl rF276 rfl (by kernel_rfl))
theorem L_spec_l01Digit {c_0 : Int} {r : Bool} (h : spec_l01Digit c_0 = some r) : FL Try.prog cfg 277 [.im 2 false [.sc (.int .u8 c_0)]] = some ([(false, [.im 0 (.sc (.bool r))])], []) := by
  unfold spec_l01Digit at h
  refine FL_goS (A := [(0, .v false [.im 2 (.sc (.int .u8 c_0))])]) (B := [(0, none)]) (nt := 9) rfl rfl Try.func277 rfl rfl rfl rfl ?_
  refine Go.seq ?_
  refine Go.r0 c277 rfl rfl (sq z277 (oAsI rfl rfl) <| nl) ?_
  refine Unw.seq ?_
  refine Go.seq ?_
  refine Go.rX c277 rfl rfl rfl (mk [(2, bv ((decide (c_0 ≥ 48)) && (decide (c_0 ≤ 57))))] []) ?_ ?_
  · by_cases hc1 : c_0 ≥ 48
    · exact ⟨_, sq z277 (oMv rfl rfl) <| sq z277 (oBi rfl rfl rfl rfl) <| sq z277 (oMv rfl rfl) <| sgT z277 rfl rfl (iDec.2 hc1) (oMv rfl rfl) <| sgT z277 rfl rfl (iDec.2 hc1) (oBi rfl rfl rfl rfl) <| sq z277 (oPkT rfl rfl (iDec.2 hc1) rfl) <| sq z277 (oAsI rfl rfl) <| nl, (Eq.trans (b := (fun t_2_m1 : Bool => mk [(2, bv t_2_m1)] []) (decide (c_0 ≤ 57))) (by kernel_rfl) (congrArg (fun t_2_m1 : Bool => mk [(2, bv t_2_m1)] []) (by first | rfl | (simp [(iDec.2 hc1)]; done) | (simp [(iDec.2 hc1)]; omega))))⟩
    · exact ⟨_, sq z277 (oMv rfl rfl) <| sq z277 (oBi rfl rfl rfl rfl) <| sq z277 (oMv rfl rfl) <| sgF rfl rfl (byF iDec hc1) rfl <| sgF rfl rfl (byF iDec hc1) rfl <| sq z277 (oPkF rfl rfl (byF iDec hc1) rfl) <| sq z277 (oAsI rfl rfl) <| nl, (Eq.trans (b := (fun t_2_m1 : Bool => mk [(2, bv t_2_m1)] []) false) (by kernel_rfl) (congrArg (fun t_2_m1 : Bool => mk [(2, bv t_2_m1)] []) (by first | rfl | (simp [(byF iDec hc1)]; done) | (simp [(byF iDec hc1)]; omega))))⟩
  · refine Unw.seq ?_
    refine Go.ret (Unw.ret ?_)
    cases h
    exact Fin_ret (fin_of rfl rF277 rfl (by kernel_rfl))
theorem L_spec_l01Name {s_0 : ByteArray} {r : Bool} (h : spec_l01Name s_0 = some r) : FL Try.prog cfg 252 [.im 2 false [.sc (.string s_0)]] = some ([(false, [.im 0 (.sc (.bool r))])], []) := by
  unfold spec_l01Name at h
  refine FL_goS (A := [(0, .v false [.im 2 (.sc (.string s_0))])]) (B := [(0, none)]) (nt := 35) rfl rfl Try.func252 rfl rfl rfl rfl ?_
  refine Go.seq ?_
  refine Go.r0 c252 rfl rfl (sq z252 (oAsI rfl rfl) <| nl) ?_
  refine Unw.seq ?_
  refine Go.seq ?_
  refine Go.seq ?_
  obtain ⟨t_16_m1, hm16, h⟩ := bs h
  refine Go.rX c252 rfl rfl rfl (mk [(0, sv s_0), (16, bv t_16_m1)] []) ?_ ?_
  · by_cases hc1 : s_0 = (⟨#[]⟩ : ByteArray)
    · rw [if_pos hc1] at hm16
      cases hm16
      exact ⟨_, sq z252 (oMv rfl rfl) <| sq z252 (oBi rfl rfl rfl rfl) <| sq z252 (oMv rfl rfl) <| sgF rfl rfl (iStr.2 hc1) rfl <| sgF rfl rfl (iStr.2 hc1) rfl <| sgF rfl rfl (iStr.2 hc1) rfl <| sq z252 (oPkT rfl rfl (iStr.2 hc1) rfl) <| sq z252 (oMv rfl rfl) <| sgF rfl rfl rfl rfl <| sgF rfl rfl rfl rfl <| sgF rfl rfl rfl rfl <| sgF rfl rfl rfl rfl <| sq z252 (oPkT rfl rfl rfl rfl) <| nl, (by kernel_rfl)⟩
    · rw [if_neg hc1] at hm16
      by_cases hc2 : (s_0.size : Int) > 10
      · rw [if_pos hc2] at hm16
        cases hm16
        exact ⟨_, sq z252 (oMv rfl rfl) <| sq z252 (oBi rfl rfl rfl rfl) <| sq z252 (oMv rfl rfl) <| sgT z252 rfl rfl (byF iStr hc1) (oMv rfl rfl) <| sgT z252 rfl rfl (byF iStr hc1) (oLnS rfl rfl uF9 rfl) <| sgT z252 rfl rfl (byF iStr hc1) (oBi rfl rfl rfl rfl) <| sq z252 (oPkF rfl rfl (byF iStr hc1) rfl) <| sq z252 (oMv rfl rfl) <| sgF rfl rfl (iDec.2 hc2) rfl <| sgF rfl rfl (iDec.2 hc2) rfl <| sgF rfl rfl (iDec.2 hc2) rfl <| sgF rfl rfl (iDec.2 hc2) rfl <| sq z252 (oPkT rfl rfl (iDec.2 hc2) rfl) <| nl, (by kernel_rfl)⟩
      · rw [if_neg hc2] at hm16
        obtain ⟨x13, hx13, hm16⟩ := bs hm16
        obtain ⟨x14, hx14, hm16⟩ := bs hm16
        cases hm16
        exact ⟨_, sq z252 (oMv rfl rfl) <| sq z252 (oBi rfl rfl rfl rfl) <| sq z252 (oMv rfl rfl) <| sgT z252 rfl rfl (byF iStr hc1) (oMv rfl rfl) <| sgT z252 rfl rfl (byF iStr hc1) (oLnS rfl rfl uF9 rfl) <| sgT z252 rfl rfl (byF iStr hc1) (oBi rfl rfl rfl rfl) <| sq z252 (oPkF rfl rfl (byF iStr hc1) rfl) <| sq z252 (oMv rfl rfl) <| sgT z252 rfl rfl (byF iDec hc2) (oMv rfl rfl) <| sgT z252 rfl rfl (byF iDec hc2) (oIx rfl hx13 uF9 rfl rfl) <| sgT z252 rfl rfl (byF iDec hc2) (oCa (xs := [.v false [.im 0 _]]) (vs := [(false, [.im 0 _])]) (v := .v false [.im 0 _]) (L_spec_l01Small hx14) (.inl rfl) rfl kF276_5 rfl (ppC rfl pp0) rfl rfl pb0 rfl rfl rfl) <| sgT z252 rfl rfl (byF iDec hc2) (oUn rfl rfl rfl) <| sq z252 (oPkF rfl rfl (byF iDec hc2) rfl) <| nl, (by kernel_rfl)⟩
  · refine Unw.seq ?_
    by_cases hc3 : t_16_m1 = true
    · rw [if_pos hc3] at h
      refine Go.condT rfl (Iff.rfl.2 hc3) ?_
      refine Go.seq ?_
      refine Go.r0 c252 rfl rfl (sq z252 (oAsI rfl rfl) <| nl) ?_
      refine Unw.seq ?_
      refine Go.ret (Unw.ret ?_)
      cases h
      exact Fin_ret (fin_of rfl rF252 rfl (by kernel_rfl))
    · rw [if_neg hc3] at h
      refine Go.condF rfl (byF Iff.rfl hc3) ?_
      refine Go.skip ?_
      refine Unw.seq ?_
      refine Go.seq ?_
      refine Go.seq ?_
      refine Go.r0 c252 rfl rfl (sq z252 (oAsI rfl rfl) <| nl) ?_
      refine Unw.seq ?_
      refine Go.block ?_
      obtain ⟨o, hl, h⟩ := bs h
      refine Go.lp c252 rfl _ (fun (i_3_l4 : Int) => mk [(0, sv s_0), (3, iv i_3_l4)] []) (fun (o : (Unit ⊕ Bool)) (p : Ex × St) => match o with | (.inl _) => p.1 = .exit 0 ∧ p.2.norm ([], []) = mk [] [] | (.inr r2) => p.1 = .ret ∧ fin Try.prog cfg 252 Try.f252 [.im 2 false [.sc (.string s_0)]] p.2 = some ([(false, [.im 0 (.sc (.bool r2))])], [])) hl (by kernel_rfl) ?_ ?_ ?_
      · intro o p hp e
        rcases o with u | r2 <;> exact nomatch (hp.1.symm.trans e)
      · rintro i_3_l4 o h
        unfold spec_l01Name_l4 at h
        refine Go.seq ?_
        refine Go.seq ?_
        refine Go.r0 c252 rfl rfl (sq z252 (oMv rfl rfl) <| sq z252 (oMv rfl rfl) <| sq z252 (oLnS rfl rfl uF9 rfl) <| sq z252 (oBi rfl rfl rfl rfl) <| nl) ?_
        refine Unw.seq ?_
        by_cases hc12 : i_3_l4 < (s_0.size : Int)
        · rw [if_pos hc12] at h
          refine Go.condT rfl (iDec.2 hc12) ?_
          refine Go.skip ?_
          refine Unw.seq ?_
          refine Go.seq ?_
          refine Go.block ?_
          refine Go.seq ?_
          obtain ⟨x25, hx25, h⟩ := bs h
          obtain ⟨x26, hx26, h⟩ := bs h
          obtain ⟨t_34_m6, hm15, h⟩ := bs h
          refine Go.rX c252 rfl rfl rfl (mk [(0, sv s_0), (3, iv i_3_l4), (34, bv t_34_m6)] []) ?_ ?_
          · by_cases hc13 : x26 = true
            · rw [if_pos hc13] at hm15
              cases hm15
              exact ⟨_, sq z252 (oMv rfl rfl) <| sq z252 (oMv rfl rfl) <| sq z252 (oIx rfl hx25 uF9 rfl rfl) <| sq z252 (oCa (xs := [.v false [.im 0 _]]) (vs := [(false, [.im 0 _])]) (v := .v false [.im 0 _]) (L_spec_l01Small hx26) (.inl rfl) rfl kF276_5 rfl (ppC rfl pp0) rfl rfl pb0 rfl rfl rfl) <| sq z252 (oUn rfl rfl rfl) <| sq z252 (oMv rfl rfl) <| sgF rfl rfl (nF (Iff.rfl.2 hc13)) rfl <| sgF rfl rfl (nF (Iff.rfl.2 hc13)) rfl <| sgF rfl rfl (nF (Iff.rfl.2 hc13)) rfl <| sgF rfl rfl (nF (Iff.rfl.2 hc13)) rfl <| sgF rfl rfl (nF (Iff.rfl.2 hc13)) rfl <| sq z252 (oPkF rfl rfl (nF (Iff.rfl.2 hc13)) rfl) <| nl, (by kernel_rfl)⟩
            · rw [if_neg hc13] at hm15
              obtain ⟨x31, hx31, hm15⟩ := bs hm15
              obtain ⟨x32, hx32, hm15⟩ := bs hm15
              cases hm15
              exact ⟨_, sq z252 (oMv rfl rfl) <| sq z252 (oMv rfl rfl) <| sq z252 (oIx rfl hx25 uF9 rfl rfl) <| sq z252 (oCa (xs := [.v false [.im 0 _]]) (vs := [(false, [.im 0 _])]) (v := .v false [.im 0 _]) (L_spec_l01Small hx26) (.inl rfl) rfl kF276_5 rfl (ppC rfl pp0) rfl rfl pb0 rfl rfl rfl) <| sq z252 (oUn rfl rfl rfl) <| sq z252 (oMv rfl rfl) <| sgT z252 rfl rfl (nT (byF Iff.rfl hc13)) (oMv rfl rfl) <| sgT z252 rfl rfl (nT (byF Iff.rfl hc13)) (oMv rfl rfl) <| sgT z252 rfl rfl (nT (byF Iff.rfl hc13)) (oIx rfl hx31 uF9 rfl rfl) <| sgT z252 rfl rfl (nT (byF Iff.rfl hc13)) (oCa (xs := [.v false [.im 0 _]]) (vs := [(false, [.im 0 _])]) (v := .v false [.im 0 _]) (L_spec_l01Digit hx32) (.inl rfl) rfl kF277_5 rfl (ppC rfl pp0) rfl rfl pb0 rfl rfl rfl) <| sgT z252 rfl rfl (nT (byF Iff.rfl hc13)) (oUn rfl rfl rfl) <| sq z252 (oPkT rfl rfl (nT (byF Iff.rfl hc13)) rfl) <| nl, (by kernel_rfl)⟩
          · refine Unw.seq ?_
            by_cases hc14 : t_34_m6 = true
            · rw [if_pos hc14] at h
              refine Go.condT rfl (Iff.rfl.2 hc14) ?_
              refine Go.seq ?_
              refine Go.r0 c252 rfl rfl (sq z252 (oAsI rfl rfl) <| nl) ?_
              refine Unw.seq ?_
              refine Go.ret (Unw.ret ?_)
              cases h
              exact ⟨rfl, (fin_of rfl rF252 rfl (by kernel_rfl))⟩
            · rw [if_neg hc14] at h
              refine Go.condF rfl (byF Iff.rfl hc14) ?_
              refine Go.skip ?_
              refine Unw.blk ?_
              refine Unw.seq ?_
              refine Go.r0 c252 rfl rfl (sq z252 (oMv rfl rfl) <| sq z252 (oBi rfl rfl rfl rfl) <| sq z252 (oAsI rfl rfl) <| nl) ?_
              refine Unw.nil ?_
              cases h
              exact ⟨rfl, (by kernel_rfl)⟩
        · rw [if_neg hc12] at h
          refine Go.condF rfl (byF iDec hc12) ?_
          refine Go.exit ?_
          refine Unw.seqx ?_
          refine Unw.nil ?_
          cases h
          exact ⟨rfl, (by kernel_rfl)⟩
      · rintro ⟨e, st⟩ hp
        rcases o with u | r2
        · dsimp only at h
          obtain ⟨he, hst⟩ := hp
          obtain rfl : e = .exit 0 := he
          refine Unw.blkx ?_
          refine Unw.seq ?_
          refine Go.seq ?_
          refine Go.r1 c252 rfl rfl hst (sq z252 (oAsI rfl rfl) <| nl) ?_
          refine Unw.seq ?_
          refine Go.ret (Unw.ret ?_)
          cases h
          exact Fin_ret (fin_of rfl rF252 rfl (by kernel_rfl))
        · dsimp only at h
          obtain ⟨he, hfin⟩ := hp
          obtain rfl : e = .ret := he
          cases h
          exact Unw.ret (Fin_ret hfin)
theorem L_spec_l00In {n_0 : Int} {low_1 : Int} {high_2 : Int} {r : Bool} (h : spec_l00In n_0 low_1 high_2 = some r) : FL Try.prog cfg 102 [.im 2 false [.sc (.int .i64 n_0)], .im 2 false [.sc (.int .i64 low_1)], .im 2 false [.sc (.int .i64 high_2)]] = some ([(false, [.im 0 (.sc (.bool r))])], []) := by
  unfold spec_l00In at h
  refine FL_goS (A := [(0, .v false [.im 2 (.sc (.int .i64 n_0))]), (1, .v false [.im 2 (.sc (.int .i64 low_1))]), (2, .v false [.im 2 (.sc (.int .i64 high_2))])]) (B := [(0, none), (1, none), (2, none)]) (nt := 15) rfl rfl Try.func102 rfl rfl rfl rfl ?_
  refine Go.seq ?_
  refine Go.r0 c102 rfl rfl (sq z102 (oAsI rfl rfl) <| nl) ?_
  refine Unw.seq ?_
  refine Go.seq ?_
  refine Go.rX c102 rfl rfl rfl (mk [(6, bv ((decide (n_0 ≥ low_1)) && (decide (n_0 ≤ high_2))))] []) ?_ ?_
  · by_cases hc1 : n_0 ≥ low_1
    · exact ⟨_, sq z102 (oMv rfl rfl) <| sq z102 (oMv rfl rfl) <| sq z102 (oBi rfl rfl rfl rfl) <| sq z102 (oMv rfl rfl) <| sgT z102 rfl rfl (iDec.2 hc1) (oMv rfl rfl) <| sgT z102 rfl rfl (iDec.2 hc1) (oMv rfl rfl) <| sgT z102 rfl rfl (iDec.2 hc1) (oBi rfl rfl rfl rfl) <| sq z102 (oPkT rfl rfl (iDec.2 hc1) rfl) <| sq z102 (oAsI rfl rfl) <| nl, (Eq.trans (b := (fun t_6_m1 : Bool => mk [(6, bv t_6_m1)] []) (decide (n_0 ≤ high_2))) (by kernel_rfl) (congrArg (fun t_6_m1 : Bool => mk [(6, bv t_6_m1)] []) (by first | rfl | (simp [(iDec.2 hc1)]; done) | (simp [(iDec.2 hc1)]; omega))))⟩
    · exact ⟨_, sq z102 (oMv rfl rfl) <| sq z102 (oMv rfl rfl) <| sq z102 (oBi rfl rfl rfl rfl) <| sq z102 (oMv rfl rfl) <| sgF rfl rfl (byF iDec hc1) rfl <| sgF rfl rfl (byF iDec hc1) rfl <| sgF rfl rfl (byF iDec hc1) rfl <| sq z102 (oPkF rfl rfl (byF iDec hc1) rfl) <| sq z102 (oAsI rfl rfl) <| nl, (Eq.trans (b := (fun t_6_m1 : Bool => mk [(6, bv t_6_m1)] []) false) (by kernel_rfl) (congrArg (fun t_6_m1 : Bool => mk [(6, bv t_6_m1)] []) (by first | rfl | (simp [(byF iDec hc1)]; done) | (simp [(byF iDec hc1)]; omega))))⟩
  · refine Unw.seq ?_
    refine Go.ret (Unw.ret ?_)
    cases h
    exact Fin_ret (fin_of rfl rF102 rfl (by kernel_rfl))
theorem L_spec_l16One {c_0 : S_Cutting} {r : Bool} (h : spec_l16One c_0 = some r) : FL Try.prog cfg 242 [.im 2 false [.cp [.sc (.string c_0.Name), .sc (.int .i64 c_0.Length), .sc (.int .i64 c_0.Hardness)] 0]] = some ([(false, [.im 0 (.sc (.bool r))])], []) := by
  unfold spec_l16One at h
  refine FL_goS (A := [(0, .v false [.im 2 (.cp [.sc (.string c_0.Name), .sc (.int .i64 c_0.Length), .sc (.int .i64 c_0.Hardness)] 0)])]) (B := [(0, none)]) (nt := 22) rfl rfl Try.func242 rfl rfl rfl rfl ?_
  refine Go.seq ?_
  refine Go.r0 c242 rfl rfl (sq z242 (oAsI rfl rfl) <| nl) ?_
  refine Unw.seq ?_
  refine Go.seq ?_
  obtain ⟨x7, hx7, h⟩ := bs h
  obtain ⟨t_2_m1, hm3, h⟩ := bs h
  refine Go.rX c242 rfl rfl rfl (mk [(2, bv t_2_m1)] []) ?_ ?_
  · by_cases hc1 : x7 = true
    · rw [if_pos hc1] at hm3
      obtain ⟨x13, hx13, hm3⟩ := bs hm3
      by_cases hc2 : x13 = true
      · rw [if_pos hc2] at hm3
        obtain ⟨x20, hx20, hm3⟩ := bs hm3
        cases hm3
        exact ⟨_, sq z242 (oMv rfl rfl) <| sq z242 (oNl rfl rfl rfl) <| sq z242 (oFA (r' := .im 2 _) rfl fF163_0 rfl rfl) <| sq z242 (oLd (cs := [.im 2 _]) rfl tF9 rfl rfl) <| sq z242 (oCa (xs := [.v false [.im 2 _]]) (vs := [(false, [.im 0 _])]) (v := .v false [.im 0 _]) (L_spec_l01Name hx7) (.inl rfl) rfl kF252_9 rfl (ppC rfl pp0) rfl rfl pb0 rfl rfl rfl) <| sq z242 (oMv rfl rfl) <| sgT z242 rfl rfl (Iff.rfl.2 hc1) (oMv rfl rfl) <| sgT z242 rfl rfl (Iff.rfl.2 hc1) (oNl rfl rfl rfl) <| sgT z242 rfl rfl (Iff.rfl.2 hc1) (oFA (r' := .im 2 _) rfl fF163_1 rfl rfl) <| sgT z242 rfl rfl (Iff.rfl.2 hc1) (oLd (cs := [.im 2 _]) rfl tF2 rfl rfl) <| sgT z242 rfl rfl (Iff.rfl.2 hc1) (oCa (xs := [.v false [.im 2 _], .v false [.im 0 _], .v false [.im 0 _]]) (vs := [(false, [.im 0 _])]) (v := .v false [.im 0 _]) (L_spec_l00In hx13) (.inl rfl) rfl kF102_2_2_2 rfl (ppC rfl (ppC rfl (ppC rfl pp0))) rfl rfl pb0 rfl rfl rfl) <| sq z242 (oPkT rfl rfl (Iff.rfl.2 hc1) rfl) <| sq z242 (oMv rfl rfl) <| sgT z242 rfl rfl (Iff.rfl.2 hc2) (oMv rfl rfl) <| sgT z242 rfl rfl (Iff.rfl.2 hc2) (oNl rfl rfl rfl) <| sgT z242 rfl rfl (Iff.rfl.2 hc2) (oFA (r' := .im 2 _) rfl fF163_2 rfl rfl) <| sgT z242 rfl rfl (Iff.rfl.2 hc2) (oLd (cs := [.im 2 _]) rfl tF2 rfl rfl) <| sgT z242 rfl rfl (Iff.rfl.2 hc2) (oCa (xs := [.v false [.im 2 _], .v false [.im 0 _], .v false [.im 0 _]]) (vs := [(false, [.im 0 _])]) (v := .v false [.im 0 _]) (L_spec_l00In hx20) (.inl rfl) rfl kF102_2_2_2 rfl (ppC rfl (ppC rfl (ppC rfl pp0))) rfl rfl pb0 rfl rfl rfl) <| sq z242 (oPkT rfl rfl (Iff.rfl.2 hc2) rfl) <| sq z242 (oAsI rfl rfl) <| nl, (by kernel_rfl)⟩
      · rw [if_neg hc2] at hm3
        cases hm3
        exact ⟨_, sq z242 (oMv rfl rfl) <| sq z242 (oNl rfl rfl rfl) <| sq z242 (oFA (r' := .im 2 _) rfl fF163_0 rfl rfl) <| sq z242 (oLd (cs := [.im 2 _]) rfl tF9 rfl rfl) <| sq z242 (oCa (xs := [.v false [.im 2 _]]) (vs := [(false, [.im 0 _])]) (v := .v false [.im 0 _]) (L_spec_l01Name hx7) (.inl rfl) rfl kF252_9 rfl (ppC rfl pp0) rfl rfl pb0 rfl rfl rfl) <| sq z242 (oMv rfl rfl) <| sgT z242 rfl rfl (Iff.rfl.2 hc1) (oMv rfl rfl) <| sgT z242 rfl rfl (Iff.rfl.2 hc1) (oNl rfl rfl rfl) <| sgT z242 rfl rfl (Iff.rfl.2 hc1) (oFA (r' := .im 2 _) rfl fF163_1 rfl rfl) <| sgT z242 rfl rfl (Iff.rfl.2 hc1) (oLd (cs := [.im 2 _]) rfl tF2 rfl rfl) <| sgT z242 rfl rfl (Iff.rfl.2 hc1) (oCa (xs := [.v false [.im 2 _], .v false [.im 0 _], .v false [.im 0 _]]) (vs := [(false, [.im 0 _])]) (v := .v false [.im 0 _]) (L_spec_l00In hx13) (.inl rfl) rfl kF102_2_2_2 rfl (ppC rfl (ppC rfl (ppC rfl pp0))) rfl rfl pb0 rfl rfl rfl) <| sq z242 (oPkT rfl rfl (Iff.rfl.2 hc1) rfl) <| sq z242 (oMv rfl rfl) <| sgF rfl rfl (byF Iff.rfl hc2) rfl <| sgF rfl rfl (byF Iff.rfl hc2) rfl <| sgF rfl rfl (byF Iff.rfl hc2) rfl <| sgF rfl rfl (byF Iff.rfl hc2) rfl <| sgF rfl rfl (byF Iff.rfl hc2) rfl <| sq z242 (oPkF rfl rfl (byF Iff.rfl hc2) rfl) <| sq z242 (oAsI rfl rfl) <| nl, (by kernel_rfl)⟩
    · rw [if_neg hc1] at hm3
      cases hm3
      exact ⟨_, sq z242 (oMv rfl rfl) <| sq z242 (oNl rfl rfl rfl) <| sq z242 (oFA (r' := .im 2 _) rfl fF163_0 rfl rfl) <| sq z242 (oLd (cs := [.im 2 _]) rfl tF9 rfl rfl) <| sq z242 (oCa (xs := [.v false [.im 2 _]]) (vs := [(false, [.im 0 _])]) (v := .v false [.im 0 _]) (L_spec_l01Name hx7) (.inl rfl) rfl kF252_9 rfl (ppC rfl pp0) rfl rfl pb0 rfl rfl rfl) <| sq z242 (oMv rfl rfl) <| sgF rfl rfl (byF Iff.rfl hc1) rfl <| sgF rfl rfl (byF Iff.rfl hc1) rfl <| sgF rfl rfl (byF Iff.rfl hc1) rfl <| sgF rfl rfl (byF Iff.rfl hc1) rfl <| sgF rfl rfl (byF Iff.rfl hc1) rfl <| sq z242 (oPkF rfl rfl (byF Iff.rfl hc1) rfl) <| sq z242 (oMv rfl rfl) <| sgF rfl rfl rfl rfl <| sgF rfl rfl rfl rfl <| sgF rfl rfl rfl rfl <| sgF rfl rfl rfl rfl <| sgF rfl rfl rfl rfl <| sq z242 (oPkF rfl rfl rfl rfl) <| sq z242 (oAsI rfl rfl) <| nl, (by kernel_rfl)⟩
  · refine Unw.seq ?_
    refine Go.ret (Unw.ret ?_)
    cases h
    exact Fin_ret (fin_of rfl rF242 rfl (by kernel_rfl))
theorem L_spec_l16Wear {c_0 : S_Cutting} {r : Int} (h : spec_l16Wear c_0 = some r) : FL Try.prog cfg 196 [.im 2 false [.cp [.sc (.string c_0.Name), .sc (.int .i64 c_0.Length), .sc (.int .i64 c_0.Hardness)] 0]] = some ([(false, [.im 0 (.sc (.int .i64 r))])], []) := by
  unfold spec_l16Wear at h
  refine FL_goS (A := [(0, .v false [.im 2 (.cp [.sc (.string c_0.Name), .sc (.int .i64 c_0.Length), .sc (.int .i64 c_0.Hardness)] 0)])]) (B := [(0, none)]) (nt := 14) rfl rfl Try.func196 rfl rfl rfl rfl ?_
  refine Go.seq ?_
  refine Go.r0 c196 rfl rfl (sq z196 (oAsI rfl rfl) <| nl) ?_
  refine Unw.seq ?_
  refine Go.seq ?_
  obtain ⟨x13, hx13, h⟩ := bs h
  refine Go.dr c196 rfl rfl rfl rfl (mk [(2, iv x13)] []) (sT rfl (dN z196 rfl (oMv rfl rfl)) <| sT rfl (dN z196 rfl (oNl rfl rfl rfl)) <| sT rfl (dN z196 rfl (oFA (r' := .im 2 _) rfl fF163_1 rfl rfl)) <| sT rfl (dN z196 rfl (oLd (cs := [.im 2 _]) rfl tF2 rfl rfl)) <| sT rfl (dN z196 rfl (oMv rfl rfl)) <| sT rfl (dN z196 rfl (oNl rfl rfl rfl)) <| sT rfl (dN z196 rfl (oFA (r' := .im 2 _) rfl fF163_2 rfl rfl)) <| sT rfl (dN z196 rfl (oLd (cs := [.im 2 _]) rfl tF2 rfl rfl)) <| sT rfl (dN z196 rfl (oBi rfl rfl rfl rfl)) <| sT rfl (dN z196 rfl (oBi rfl rfl rfl rfl)) <| sT rfl (dN z196 rfl (oQuo rfl hx13 rfl rfl)) <| sS (dN z196 rfl (oAsI rfl rfl)) trivial (sD (by kernel_rfl))) ?_
  refine Unw.seq ?_
  refine Go.ret (Unw.ret ?_)
  cases h
  exact Fin_ret (fin_of rfl rF196 rfl (by kernel_rfl))
theorem L_spec_WearOf {c_0 : S_Cutting} {r : (Int × Int)} (h : spec_WearOf c_0 = some r) : FL Try.prog cfg 174 [.im 2 true [.sc (.string c_0.Name), .sc (.int .i64 c_0.Length), .sc (.int .i64 c_0.Hardness)]] = some ([(false, [.im 0 (.sc (.int .i64 r.1))]), (false, [.im 0 (.sc (.int .i64 r.2))])], []) := by
  unfold spec_WearOf at h
  refine FL_goS (A := [(0, .v true [.im 2 (.sc (.string c_0.Name)), .im 2 (.sc (.int .i64 c_0.Length)), .im 2 (.sc (.int .i64 c_0.Hardness))])]) (B := [(0, none)]) (nt := 7) rfl rfl Try.func174 rfl rfl rfl rfl ?_
  refine Go.seq ?_
  refine Go.r0 c174 rfl rfl (sq z174 (oBx rfl tF163 rfl (tkI (tkI (tkI tk0)))) <| sq z174 (oAsI rfl rfl) <| sq z174 (oAsI rfl rfl) <| nl) ?_
  refine Unw.seq ?_
  refine Go.seq ?_
  refine Go.seq ?_
  obtain ⟨x4, hx4, h⟩ := bs h
  refine Go.r0 c174 rfl rfl (sq z174 (oCa (xs := [.v false [.mp 1 0 0]]) (vs := [(false, [.im 0 _])]) (v := .v false [.im 0 _]) (L_spec_l16One hx4) (.inl rfl) rfl kF242_291 rfl (ppC rfl pp0) rfl rfl pb0 rfl rfl rfl) <| sq z174 (oUn rfl rfl rfl) <| nl) ?_
  refine Unw.seq ?_
  by_cases hc1 : x4 = true
  · rw [if_pos hc1] at h
    refine Go.condF rfl (nF (Iff.rfl.2 hc1)) ?_
    refine Go.skip ?_
    refine Unw.seq ?_
    refine Go.seq ?_
    obtain ⟨x6, hx6, h⟩ := bs h
    refine Go.r0 c174 rfl rfl (sq z174 (oCa (xs := [.v false [.mp 1 0 0]]) (vs := [(false, [.im 0 _])]) (v := .v false [.im 0 _]) (L_spec_l16Wear hx6) (.inl rfl) rfl kF196_291 rfl (ppC rfl pp0) rfl rfl pb0 rfl rfl rfl) <| sq z174 (oAsI rfl rfl) <| sq z174 (oAsI rfl rfl) <| nl) ?_
    refine Unw.seq ?_
    refine Go.ret (Unw.ret ?_)
    cases h
    exact Fin_ret (fin_of rfl rF174 rfl (by kernel_rfl))
  · rw [if_neg hc1] at h
    refine Go.condT rfl (nT (byF Iff.rfl hc1)) ?_
    refine Go.seq ?_
    refine Go.r0 c174 rfl rfl (sq z174 (oAsI rfl rfl) <| sq z174 (oAsI rfl rfl) <| nl) ?_
    refine Unw.seq ?_
    refine Go.ret (Unw.ret ?_)
    cases h
    exact Fin_ret (fin_of rfl rF174 rfl (by kernel_rfl))
theorem L_laws_b10Bins {b_0 : S_Blade} {list_1 : (List S_Cutting)} {blades_2 : (List Int)} {n_3 : Int} {r : Bool} (h : laws_b10Bins b_0 list_1 blades_2 n_3 = some r) : FL Try.prog cfg 78 [.im 2 true [.sc (.string b_0.Name), .sc (.int .i64 b_0.Life), .sc (.int .i64 b_0.Price), .sc (.int .i64 b_0.Speed)], .im 2 false [.row 3 (List.map e_S_Cutting list_1)], .im 2 false [.row 1 (List.map eI blades_2)], .im 2 false [.sc (.int .i64 n_3)]] = some ([(false, [.im 0 (.sc (.bool r))])], []) := by
  unfold laws_b10Bins at h
  refine FL_goS (A := [(0, .v true [.im 2 (.sc (.string b_0.Name)), .im 2 (.sc (.int .i64 b_0.Life)), .im 2 (.sc (.int .i64 b_0.Price)), .im 2 (.sc (.int .i64 b_0.Speed))]), (1, .v false [.im 2 (.row 3 (List.map e_S_Cutting list_1))]), (2, .v false [.im 2 (.row 1 (List.map eI blades_2))]), (3, .v false [.im 2 (.sc (.int .i64 n_3))])]) (B := [(0, none), (1, none), (2, none), (3, none)]) (nt := 79) rfl rfl Try.func78 rfl rfl rfl rfl ?_
  refine Go.seq ?_
  refine Go.r0 c78 rfl rfl (sq z78 (oBx rfl tF54 rfl (tkI (tkI (tkI (tkI tk0))))) <| sq z78 (oAsI rfl rfl) <| nl) ?_
  refine Unw.seq ?_
  refine Go.seq ?_
  refine Go.seq ?_
  refine Go.rX c78 rfl rfl rfl (mk [(1, .v false [.im 2 (.row 3 (List.map e_S_Cutting list_1))]), (2, .v false [.im 2 (.row 1 (List.map eI blades_2))]), (3, iv n_3), (4, .v false [.mp 4 0 0]), (25, bv (((blades_2.length : Int) != (list_1.length : Int)) || (decide (n_3 > (list_1.length : Int)))))] [(4, some ⟨0, 0, false, true, false, true, [⟨.imm, 0, 0, .sc (.string b_0.Name)⟩, ⟨.imm, 0, 0, .sc (.int .i64 b_0.Life)⟩, ⟨.imm, 0, 0, .sc (.int .i64 b_0.Price)⟩, ⟨.imm, 0, 0, .sc (.int .i64 b_0.Speed)⟩]⟩)]) ?_ ?_
  · by_cases hc1 : (blades_2.length : Int) ≠ (list_1.length : Int)
    · exact ⟨_, sq z78 (oMv rfl rfl) <| sq z78 (oLnI rfl rfl uF27 rfl) <| sq z78 (oMv rfl rfl) <| sq z78 (oLnI rfl rfl uF56 rfl) <| sq z78 (oBi rfl rfl rfl rfl) <| sq z78 (oMv rfl rfl) <| sgF rfl rfl (iNe.2 hc1) rfl <| sgF rfl rfl (iNe.2 hc1) rfl <| sgF rfl rfl (iNe.2 hc1) rfl <| sgF rfl rfl (iNe.2 hc1) rfl <| sq z78 (oPkT rfl rfl (iNe.2 hc1) rfl) <| nl, (Eq.trans (b := (fun t_25_m1 : Bool => mk [(1, .v false [.im 2 (.row 3 (List.map e_S_Cutting list_1))]), (2, .v false [.im 2 (.row 1 (List.map eI blades_2))]), (3, iv n_3), (4, .v false [.mp 4 0 0]), (25, bv t_25_m1)] [(4, some ⟨0, 0, false, true, false, true, [⟨.imm, 0, 0, .sc (.string b_0.Name)⟩, ⟨.imm, 0, 0, .sc (.int .i64 b_0.Life)⟩, ⟨.imm, 0, 0, .sc (.int .i64 b_0.Price)⟩, ⟨.imm, 0, 0, .sc (.int .i64 b_0.Speed)⟩]⟩)]) true) (by kernel_rfl) (congrArg (fun t_25_m1 : Bool => mk [(1, .v false [.im 2 (.row 3 (List.map e_S_Cutting list_1))]), (2, .v false [.im 2 (.row 1 (List.map eI blades_2))]), (3, iv n_3), (4, .v false [.mp 4 0 0]), (25, bv t_25_m1)] [(4, some ⟨0, 0, false, true, false, true, [⟨.imm, 0, 0, .sc (.string b_0.Name)⟩, ⟨.imm, 0, 0, .sc (.int .i64 b_0.Life)⟩, ⟨.imm, 0, 0, .sc (.int .i64 b_0.Price)⟩, ⟨.imm, 0, 0, .sc (.int .i64 b_0.Speed)⟩]⟩)]) (by first | rfl | (simp [(iNe.2 hc1)]; done) | (simp [(iNe.2 hc1)]; omega))))⟩
    · exact ⟨_, sq z78 (oMv rfl rfl) <| sq z78 (oLnI rfl rfl uF27 rfl) <| sq z78 (oMv rfl rfl) <| sq z78 (oLnI rfl rfl uF56 rfl) <| sq z78 (oBi rfl rfl rfl rfl) <| sq z78 (oMv rfl rfl) <| sgT z78 rfl rfl (byF iNe hc1) (oMv rfl rfl) <| sgT z78 rfl rfl (byF iNe hc1) (oMv rfl rfl) <| sgT z78 rfl rfl (byF iNe hc1) (oLnI rfl rfl uF56 rfl) <| sgT z78 rfl rfl (byF iNe hc1) (oBi rfl rfl rfl rfl) <| sq z78 (oPkF rfl rfl (byF iNe hc1) rfl) <| nl, (Eq.trans (b := (fun t_25_m1 : Bool => mk [(1, .v false [.im 2 (.row 3 (List.map e_S_Cutting list_1))]), (2, .v false [.im 2 (.row 1 (List.map eI blades_2))]), (3, iv n_3), (4, .v false [.mp 4 0 0]), (25, bv t_25_m1)] [(4, some ⟨0, 0, false, true, false, true, [⟨.imm, 0, 0, .sc (.string b_0.Name)⟩, ⟨.imm, 0, 0, .sc (.int .i64 b_0.Life)⟩, ⟨.imm, 0, 0, .sc (.int .i64 b_0.Price)⟩, ⟨.imm, 0, 0, .sc (.int .i64 b_0.Speed)⟩]⟩)]) (decide (n_3 > (list_1.length : Int)))) (by kernel_rfl) (congrArg (fun t_25_m1 : Bool => mk [(1, .v false [.im 2 (.row 3 (List.map e_S_Cutting list_1))]), (2, .v false [.im 2 (.row 1 (List.map eI blades_2))]), (3, iv n_3), (4, .v false [.mp 4 0 0]), (25, bv t_25_m1)] [(4, some ⟨0, 0, false, true, false, true, [⟨.imm, 0, 0, .sc (.string b_0.Name)⟩, ⟨.imm, 0, 0, .sc (.int .i64 b_0.Life)⟩, ⟨.imm, 0, 0, .sc (.int .i64 b_0.Price)⟩, ⟨.imm, 0, 0, .sc (.int .i64 b_0.Speed)⟩]⟩)]) (by first | rfl | (simp [(byF iNe hc1)]; done) | (simp [(byF iNe hc1)]; omega))))⟩
  · refine Unw.seq ?_
    by_cases hc2 : ((blades_2.length : Int) ≠ (list_1.length : Int) ∨ n_3 > (list_1.length : Int))
    · rw [if_pos hc2] at h
      refine Go.condT rfl ((iOr iNe iDec).2 hc2) ?_
      refine Go.seq ?_
      refine Go.r0 c78 rfl rfl (sq z78 (oAsI rfl rfl) <| nl) ?_
      refine Unw.seq ?_
      refine Go.ret (Unw.ret ?_)
      cases h
      exact Fin_ret (fin_of rfl rF78 rfl (by kernel_rfl))
    · rw [if_neg hc2] at h
      refine Go.condF rfl (byF (iOr iNe iDec) hc2) ?_
      refine Go.skip ?_
      refine Unw.seq ?_
      refine Go.seq ?_
      refine Go.seq ?_
      refine Go.r0 c78 rfl rfl (sq z78 (oAsI rfl rfl) <| nl) ?_
      refine Unw.seq ?_
      refine Go.block ?_
      obtain ⟨o, hl, h⟩ := bs h
      refine Go.lp c78 rfl _ (fun (k_9_l4 : Int) => mk [(1, .v false [.im 2 (.row 3 (List.map e_S_Cutting list_1))]), (2, .v false [.im 2 (.row 1 (List.map eI blades_2))]), (3, iv n_3), (4, .v false [.mp 4 0 0]), (9, iv k_9_l4)] [(4, some ⟨0, 0, false, true, false, true, [⟨.imm, 0, 0, .sc (.string b_0.Name)⟩, ⟨.imm, 0, 0, .sc (.int .i64 b_0.Life)⟩, ⟨.imm, 0, 0, .sc (.int .i64 b_0.Price)⟩, ⟨.imm, 0, 0, .sc (.int .i64 b_0.Speed)⟩]⟩)]) (fun (o : (Unit ⊕ Bool)) (p : Ex × St) => match o with | (.inl _) => p.1 = .exit 0 ∧ p.2.norm ([], []) = mk [] [] | (.inr r2) => p.1 = .ret ∧ fin Try.prog cfg 78 Try.f78 [.im 2 true [.sc (.string b_0.Name), .sc (.int .i64 b_0.Life), .sc (.int .i64 b_0.Price), .sc (.int .i64 b_0.Speed)], .im 2 false [.row 3 (List.map e_S_Cutting list_1)], .im 2 false [.row 1 (List.map eI blades_2)], .im 2 false [.sc (.int .i64 n_3)]] p.2 = some ([(false, [.im 0 (.sc (.bool r2))])], [])) hl (by kernel_rfl) ?_ ?_ ?_
      · intro o p hp e
        rcases o with u | r2 <;> exact nomatch (hp.1.symm.trans e)
      · rintro k_9_l4 o h
        unfold laws_b10Bins_l4 at h
        refine Go.seq ?_
        refine Go.seq ?_
        refine Go.r0 c78 rfl rfl (sq z78 (oMv rfl rfl) <| sq z78 (oMv rfl rfl) <| sq z78 (oBi rfl rfl rfl rfl) <| nl) ?_
        refine Unw.seq ?_
        by_cases hc33 : k_9_l4 < n_3
        · rw [if_pos hc33] at h
          refine Go.condT rfl (iDec.2 hc33) ?_
          refine Go.skip ?_
          refine Unw.seq ?_
          refine Go.seq ?_
          refine Go.block ?_
          refine Go.seq ?_
          refine Go.r0 c78 rfl rfl (sq z78 (oAsI rfl rfl) <| nl) ?_
          refine Unw.seq ?_
          refine Go.seq ?_
          refine Go.r0 c78 rfl rfl (sq z78 (oAsI rfl rfl) <| nl) ?_
          refine Unw.seq ?_
          refine Go.seq ?_
          refine Go.seq ?_
          refine Go.r0 c78 rfl rfl (sq z78 (oAsI rfl rfl) <| nl) ?_
          refine Unw.seq ?_
          refine Go.block ?_
          obtain ⟨o, hl, h⟩ := bs h
          refine Go.lp c78 rfl _ (fun (s : (Int × Int × Int)) => match s with | (sum_10_l9, many_11_l9, i_12_l9) => mk [(1, .v false [.im 2 (.row 3 (List.map e_S_Cutting list_1))]), (2, .v false [.im 2 (.row 1 (List.map eI blades_2))]), (3, iv n_3), (4, .v false [.mp 4 0 0]), (9, iv k_9_l4), (10, iv sum_10_l9), (11, iv many_11_l9), (12, iv i_12_l9)] [(4, some ⟨0, 0, false, true, false, true, [⟨.imm, 0, 0, .sc (.string b_0.Name)⟩, ⟨.imm, 0, 0, .sc (.int .i64 b_0.Life)⟩, ⟨.imm, 0, 0, .sc (.int .i64 b_0.Price)⟩, ⟨.imm, 0, 0, .sc (.int .i64 b_0.Speed)⟩]⟩)]) (fun (o : ((Int × Int) ⊕ Bool)) (p : Ex × St) => match o with | (.inl (sum_10_e2_9, many_11_e2_9)) => p.1 = .exit 2 ∧ p.2.norm ([1, 2, 3, 4, 9, 10, 11], [4]) = mk [(1, .v false [.im 2 (.row 3 (List.map e_S_Cutting list_1))]), (2, .v false [.im 2 (.row 1 (List.map eI blades_2))]), (3, iv n_3), (4, .v false [.mp 4 0 0]), (9, iv k_9_l4), (10, iv sum_10_e2_9), (11, iv many_11_e2_9)] [(4, some ⟨0, 0, false, true, false, true, [⟨.imm, 0, 0, .sc (.string b_0.Name)⟩, ⟨.imm, 0, 0, .sc (.int .i64 b_0.Life)⟩, ⟨.imm, 0, 0, .sc (.int .i64 b_0.Price)⟩, ⟨.imm, 0, 0, .sc (.int .i64 b_0.Speed)⟩]⟩)] | (.inr r2) => p.1 = .ret ∧ fin Try.prog cfg 78 Try.f78 [.im 2 true [.sc (.string b_0.Name), .sc (.int .i64 b_0.Life), .sc (.int .i64 b_0.Price), .sc (.int .i64 b_0.Speed)], .im 2 false [.row 3 (List.map e_S_Cutting list_1)], .im 2 false [.row 1 (List.map eI blades_2)], .im 2 false [.sc (.int .i64 n_3)]] p.2 = some ([(false, [.im 0 (.sc (.bool r2))])], [])) hl (by kernel_rfl) ?_ ?_ ?_
          · intro o p hp e
            rcases o with ⟨sum_10_e2_9, many_11_e2_9⟩ | r2 <;> exact nomatch (hp.1.symm.trans e)
          · rintro ⟨sum_10_l9, many_11_l9, i_12_l9⟩ o h
            unfold laws_b10Bins_l9 at h
            dsimp only at h
            refine Go.seq ?_
            refine Go.seq ?_
            refine Go.r0 c78 rfl rfl (sq z78 (oMv rfl rfl) <| sq z78 (oMv rfl rfl) <| sq z78 (oLnI rfl rfl uF27 rfl) <| sq z78 (oBi rfl rfl rfl rfl) <| nl) ?_
            refine Unw.seq ?_
            by_cases hc48 : i_12_l9 < (blades_2.length : Int)
            · rw [if_pos hc48] at h
              refine Go.condT rfl (iDec.2 hc48) ?_
              refine Go.skip ?_
              refine Unw.seq ?_
              refine Go.seq ?_
              refine Go.join (fun st => ∃ sum_10_r10, ∃ many_11_r10, laws_b10Bins_k10 i_12_l9 sum_10_r10 many_11_r10 = some o ∧ st.norm ([1, 2, 3, 4, 9, 10, 11, 12], [4]) = mk [(1, .v false [.im 2 (.row 3 (List.map e_S_Cutting list_1))]), (2, .v false [.im 2 (.row 1 (List.map eI blades_2))]), (3, iv n_3), (4, .v false [.mp 4 0 0]), (9, iv k_9_l4), (10, iv sum_10_r10), (11, iv many_11_r10), (12, iv i_12_l9)] [(4, some ⟨0, 0, false, true, false, true, [⟨.imm, 0, 0, .sc (.string b_0.Name)⟩, ⟨.imm, 0, 0, .sc (.int .i64 b_0.Life)⟩, ⟨.imm, 0, 0, .sc (.int .i64 b_0.Price)⟩, ⟨.imm, 0, 0, .sc (.int .i64 b_0.Speed)⟩]⟩)]) ?_ ?_
              · rintro st ⟨sum_10_r10, many_11_r10, h, hst⟩
                unfold laws_b10Bins_k10 at h
                refine Unw.seq ?_
                refine Go.r1 c78 rfl rfl hst (sq z78 (oMv rfl rfl) <| sq z78 (oBi rfl rfl rfl rfl) <| sq z78 (oAsI rfl rfl) <| nl) ?_
                refine Unw.nil ?_
                cases h
                exact ⟨rfl, (by kernel_rfl)⟩
              · intro K54
                refine Go.block ?_
                refine Go.seq ?_
                refine Go.seq ?_
                obtain ⟨x39, hx39, h⟩ := bs h
                obtain ⟨t_49_m11, hm59, h⟩ := bs h
                refine Go.rX c78 rfl rfl rfl (mk [(1, .v false [.im 2 (.row 3 (List.map e_S_Cutting list_1))]), (2, .v false [.im 2 (.row 1 (List.map eI blades_2))]), (3, iv n_3), (4, .v false [.mp 4 0 0]), (9, iv k_9_l4), (10, iv sum_10_l9), (11, iv many_11_l9), (12, iv i_12_l9), (49, bv t_49_m11)] [(4, some ⟨0, 0, false, true, false, true, [⟨.imm, 0, 0, .sc (.string b_0.Name)⟩, ⟨.imm, 0, 0, .sc (.int .i64 b_0.Life)⟩, ⟨.imm, 0, 0, .sc (.int .i64 b_0.Price)⟩, ⟨.imm, 0, 0, .sc (.int .i64 b_0.Speed)⟩]⟩)]) ?_ ?_
                · by_cases hc55 : x39 < 0
                  · rw [if_pos hc55] at hm59
                    cases hm59
                    exact ⟨_, sq z78 (oMv rfl rfl) <| sq z78 (oMv rfl rfl) <| sq z78 (oIAI rfl hx39 sF27 rfl rfl) <| sq z78 (oLd (cs := [.im 2 _]) rfl tF2 rfl rfl) <| sq z78 (oBi rfl rfl rfl rfl) <| sq z78 (oMv rfl rfl) <| sgF rfl rfl (iDec.2 hc55) rfl <| sgF rfl rfl (iDec.2 hc55) rfl <| sgF rfl rfl (iDec.2 hc55) rfl <| sgF rfl rfl (iDec.2 hc55) rfl <| sgF rfl rfl (iDec.2 hc55) rfl <| sgF rfl rfl (iDec.2 hc55) rfl <| sq z78 (oPkT rfl rfl (iDec.2 hc55) rfl) <| nl, (by kernel_rfl)⟩
                  · rw [if_neg hc55] at hm59
                    obtain ⟨x45, hx45, hm59⟩ := bs hm59
                    cases hm59
                    exact ⟨_, sq z78 (oMv rfl rfl) <| sq z78 (oMv rfl rfl) <| sq z78 (oIAI rfl hx39 sF27 rfl rfl) <| sq z78 (oLd (cs := [.im 2 _]) rfl tF2 rfl rfl) <| sq z78 (oBi rfl rfl rfl rfl) <| sq z78 (oMv rfl rfl) <| sgT z78 rfl rfl (byF iDec hc55) (oMv rfl rfl) <| sgT z78 rfl rfl (byF iDec hc55) (oMv rfl rfl) <| sgT z78 rfl rfl (byF iDec hc55) (oIAI rfl hx45 sF27 rfl rfl) <| sgT z78 rfl rfl (byF iDec hc55) (oLd (cs := [.im 2 _]) rfl tF2 rfl rfl) <| sgT z78 rfl rfl (byF iDec hc55) (oMv rfl rfl) <| sgT z78 rfl rfl (byF iDec hc55) (oBi rfl rfl rfl rfl) <| sq z78 (oPkF rfl rfl (byF iDec hc55) rfl) <| nl, (by kernel_rfl)⟩
                · refine Unw.seq ?_
                  by_cases hc56 : t_49_m11 = true
                  · rw [if_pos hc56] at h
                    refine Go.condT rfl (Iff.rfl.2 hc56) ?_
                    refine Go.seq ?_
                    refine Go.r0 c78 rfl rfl (sq z78 (oAsI rfl rfl) <| nl) ?_
                    refine Unw.seq ?_
                    refine Go.ret (Unw.ret ?_)
                    cases h
                    exact ⟨rfl, (fin_of rfl rF78 rfl (by kernel_rfl))⟩
                  · rw [if_neg hc56] at h
                    refine Go.condF rfl (byF Iff.rfl hc56) ?_
                    refine Go.skip ?_
                    refine Unw.seq ?_
                    refine Go.seq ?_
                    obtain ⟨x52, hx52, h⟩ := bs h
                    refine Go.r0 c78 rfl rfl (sq z78 (oMv rfl rfl) <| sq z78 (oMv rfl rfl) <| sq z78 (oIAI rfl hx52 sF27 rfl rfl) <| sq z78 (oLd (cs := [.im 2 _]) rfl tF2 rfl rfl) <| sq z78 (oMv rfl rfl) <| sq z78 (oBi rfl rfl rfl rfl) <| nl) ?_
                    refine Unw.seq ?_
                    by_cases hc57 : x52 = k_9_l4
                    · rw [if_pos hc57] at h
                      refine Go.condT rfl (iEq.2 hc57) ?_
                      refine Go.seq ?_
                      obtain ⟨x59, hx59, h⟩ := bs h
                      obtain ⟨x61, hx61, h⟩ := bs h
                      refine Go.r0 c78 rfl rfl (sq z78 (oMv rfl rfl) <| sq z78 (oMv rfl rfl) <| sq z78 (oIAI rfl hx59 sF56 rfl rfl) <| sq z78 (oLd (cs := [.im 2 _, .im 2 _, .im 2 _]) rfl tF163 rfl rfl) <| sq z78 (oCa (xs := [.v true [.im 2 _, .im 2 _, .im 2 _]]) (vs := [(false, [.im 0 _]), (false, [.im 0 _])]) (v := .tup [(false, [.im 0 _]), (false, [.im 0 _])]) (L_spec_WearOf hx61) (.inl rfl) rfl kF174_163 rfl (ppC rfl pp0) rfl rfl pb0 rfl rfl rfl) <| sq z78 (oMvT rfl rfl) <| sq z78 (oEx rfl rfl rfl) <| sq z78 (oEx rfl rfl rfl) <| sq z78 (oAsI rfl rfl) <| sq z78 (oAsI rfl rfl) <| nl) ?_
                      refine Unw.seq ?_
                      refine Go.seq ?_
                      refine Go.seq ?_
                      refine Go.r0 c78 rfl rfl (sq z78 (oMv rfl rfl) <| sq z78 (oBi rfl rfl rfl rfl) <| nl) ?_
                      refine Unw.seq ?_
                      by_cases hc58 : x61.2 ≠ 0
                      · rw [if_pos hc58] at h
                        refine Go.condT rfl (iNe.2 hc58) ?_
                        refine Go.seq ?_
                        refine Go.r0 c78 rfl rfl (sq z78 (oAsI rfl rfl) <| nl) ?_
                        refine Unw.seq ?_
                        refine Go.ret (Unw.ret ?_)
                        cases h
                        exact ⟨rfl, (fin_of rfl rF78 rfl (by kernel_rfl))⟩
                      · rw [if_neg hc58] at h
                        refine Go.condF rfl (byF iNe hc58) ?_
                        refine Go.skip ?_
                        refine Unw.seq ?_
                        refine Go.seq ?_
                        refine Go.r0 c78 rfl rfl (sq z78 (oMv rfl rfl) <| sq z78 (oMv rfl rfl) <| sq z78 (oBi rfl rfl rfl rfl) <| sq z78 (oAsI rfl rfl) <| nl) ?_
                        refine Unw.seq ?_
                        refine Go.r0 c78 rfl rfl (sq z78 (oMv rfl rfl) <| sq z78 (oBi rfl rfl rfl rfl) <| sq z78 (oAsI rfl rfl) <| nl) ?_
                        refine Unw.blk ?_
                        exact K54 _ ⟨(w64 (sum_10_l9 + x61.1)), (w64 (many_11_l9 + 1)), h, (by kernel_rfl)⟩
                    · rw [if_neg hc57] at h
                      refine Go.condF rfl (byF iEq hc57) ?_
                      refine Go.skip ?_
                      refine Unw.blk ?_
                      exact K54 _ ⟨sum_10_l9, many_11_l9, h, (by kernel_rfl)⟩
            · rw [if_neg hc48] at h
              refine Go.condF rfl (byF iDec hc48) ?_
              refine Go.exit ?_
              refine Unw.seqx ?_
              refine Unw.nil ?_
              cases h
              exact ⟨rfl, (by kernel_rfl)⟩
          · rintro ⟨e, st⟩ hp
            rcases o with ⟨sum_10_e2_9, many_11_e2_9⟩ | r2
            · dsimp only at h
              obtain ⟨he, hst⟩ := hp
              obtain rfl : e = .exit 2 := he
              refine Unw.blkx ?_
              refine Unw.seq ?_
              refine Go.seq ?_
              refine Go.rX c78 rfl rfl hst (mk [(1, .v false [.im 2 (.row 3 (List.map e_S_Cutting list_1))]), (2, .v false [.im 2 (.row 1 (List.map eI blades_2))]), (3, iv n_3), (4, .v false [.mp 4 0 0]), (9, iv k_9_l4), (78, bv ((decide (sum_10_e2_9 > b_0.Life)) || (many_11_e2_9 == 0)))] [(4, some ⟨0, 0, false, true, false, true, [⟨.imm, 0, 0, .sc (.string b_0.Name)⟩, ⟨.imm, 0, 0, .sc (.int .i64 b_0.Life)⟩, ⟨.imm, 0, 0, .sc (.int .i64 b_0.Price)⟩, ⟨.imm, 0, 0, .sc (.int .i64 b_0.Speed)⟩]⟩)]) ?_ ?_
              · by_cases hc46 : sum_10_e2_9 > b_0.Life
                · exact ⟨_, sq z78 (oMv rfl rfl) <| sq z78 (oFA (r' := .mp 4 0 1) rfl fF54_1 rfl rfl) <| sq z78 (oLd (cs := [.im 0 _]) rfl tF2 rfl rfl) <| sq z78 (oBi rfl rfl rfl rfl) <| sq z78 (oMv rfl rfl) <| sgF rfl rfl (iDec.2 hc46) rfl <| sgF rfl rfl (iDec.2 hc46) rfl <| sq z78 (oPkT rfl rfl (iDec.2 hc46) rfl) <| nl, (Eq.trans (b := (fun t_78_m19 : Bool => mk [(1, .v false [.im 2 (.row 3 (List.map e_S_Cutting list_1))]), (2, .v false [.im 2 (.row 1 (List.map eI blades_2))]), (3, iv n_3), (4, .v false [.mp 4 0 0]), (9, iv k_9_l4), (78, bv t_78_m19)] [(4, some ⟨0, 0, false, true, false, true, [⟨.imm, 0, 0, .sc (.string b_0.Name)⟩, ⟨.imm, 0, 0, .sc (.int .i64 b_0.Life)⟩, ⟨.imm, 0, 0, .sc (.int .i64 b_0.Price)⟩, ⟨.imm, 0, 0, .sc (.int .i64 b_0.Speed)⟩]⟩)]) true) (by kernel_rfl) (congrArg (fun t_78_m19 : Bool => mk [(1, .v false [.im 2 (.row 3 (List.map e_S_Cutting list_1))]), (2, .v false [.im 2 (.row 1 (List.map eI blades_2))]), (3, iv n_3), (4, .v false [.mp 4 0 0]), (9, iv k_9_l4), (78, bv t_78_m19)] [(4, some ⟨0, 0, false, true, false, true, [⟨.imm, 0, 0, .sc (.string b_0.Name)⟩, ⟨.imm, 0, 0, .sc (.int .i64 b_0.Life)⟩, ⟨.imm, 0, 0, .sc (.int .i64 b_0.Price)⟩, ⟨.imm, 0, 0, .sc (.int .i64 b_0.Speed)⟩]⟩)]) (by first | rfl | (simp [(iDec.2 hc46)]; done) | (simp [(iDec.2 hc46)]; omega))))⟩
                · exact ⟨_, sq z78 (oMv rfl rfl) <| sq z78 (oFA (r' := .mp 4 0 1) rfl fF54_1 rfl rfl) <| sq z78 (oLd (cs := [.im 0 _]) rfl tF2 rfl rfl) <| sq z78 (oBi rfl rfl rfl rfl) <| sq z78 (oMv rfl rfl) <| sgT z78 rfl rfl (byF iDec hc46) (oMv rfl rfl) <| sgT z78 rfl rfl (byF iDec hc46) (oBi rfl rfl rfl rfl) <| sq z78 (oPkF rfl rfl (byF iDec hc46) rfl) <| nl, (Eq.trans (b := (fun t_78_m19 : Bool => mk [(1, .v false [.im 2 (.row 3 (List.map e_S_Cutting list_1))]), (2, .v false [.im 2 (.row 1 (List.map eI blades_2))]), (3, iv n_3), (4, .v false [.mp 4 0 0]), (9, iv k_9_l4), (78, bv t_78_m19)] [(4, some ⟨0, 0, false, true, false, true, [⟨.imm, 0, 0, .sc (.string b_0.Name)⟩, ⟨.imm, 0, 0, .sc (.int .i64 b_0.Life)⟩, ⟨.imm, 0, 0, .sc (.int .i64 b_0.Price)⟩, ⟨.imm, 0, 0, .sc (.int .i64 b_0.Speed)⟩]⟩)]) (many_11_e2_9 == 0)) (by kernel_rfl) (congrArg (fun t_78_m19 : Bool => mk [(1, .v false [.im 2 (.row 3 (List.map e_S_Cutting list_1))]), (2, .v false [.im 2 (.row 1 (List.map eI blades_2))]), (3, iv n_3), (4, .v false [.mp 4 0 0]), (9, iv k_9_l4), (78, bv t_78_m19)] [(4, some ⟨0, 0, false, true, false, true, [⟨.imm, 0, 0, .sc (.string b_0.Name)⟩, ⟨.imm, 0, 0, .sc (.int .i64 b_0.Life)⟩, ⟨.imm, 0, 0, .sc (.int .i64 b_0.Price)⟩, ⟨.imm, 0, 0, .sc (.int .i64 b_0.Speed)⟩]⟩)]) (by first | rfl | (simp [(byF iDec hc46)]; done) | (simp [(byF iDec hc46)]; omega))))⟩
              · refine Unw.seq ?_
                by_cases hc47 : (sum_10_e2_9 > b_0.Life ∨ many_11_e2_9 = 0)
                · rw [if_pos hc47] at h
                  refine Go.condT rfl ((iOr iDec iEq).2 hc47) ?_
                  refine Go.seq ?_
                  refine Go.r0 c78 rfl rfl (sq z78 (oAsI rfl rfl) <| nl) ?_
                  refine Unw.seq ?_
                  refine Go.ret (Unw.ret ?_)
                  cases h
                  exact ⟨rfl, (fin_of rfl rF78 rfl (by kernel_rfl))⟩
                · rw [if_neg hc47] at h
                  refine Go.condF rfl (byF (iOr iDec iEq) hc47) ?_
                  refine Go.skip ?_
                  refine Unw.blk ?_
                  refine Unw.seq ?_
                  refine Go.r0 c78 rfl rfl (sq z78 (oMv rfl rfl) <| sq z78 (oBi rfl rfl rfl rfl) <| sq z78 (oAsI rfl rfl) <| nl) ?_
                  refine Unw.nil ?_
                  cases h
                  exact ⟨rfl, (by kernel_rfl)⟩
            · dsimp only at h
              obtain ⟨he, hfin⟩ := hp
              obtain rfl : e = .ret := he
              cases h
              exact Unw.ret ⟨rfl, hfin⟩
        · rw [if_neg hc33] at h
          refine Go.condF rfl (byF iDec hc33) ?_
          refine Go.exit ?_
          refine Unw.seqx ?_
          refine Unw.nil ?_
          cases h
          exact ⟨rfl, (by kernel_rfl)⟩
      · rintro ⟨e, st⟩ hp
        rcases o with u | r2
        · dsimp only at h
          obtain ⟨he, hst⟩ := hp
          obtain rfl : e = .exit 0 := he
          refine Unw.blkx ?_
          refine Unw.seq ?_
          refine Go.seq ?_
          refine Go.r1 c78 rfl rfl hst (sq z78 (oAsI rfl rfl) <| nl) ?_
          refine Unw.seq ?_
          refine Go.ret (Unw.ret ?_)
          cases h
          exact Fin_ret (fin_of rfl rF78 rfl (by kernel_rfl))
        · dsimp only at h
          obtain ⟨he, hfin⟩ := hp
          obtain rfl : e = .ret := he
          cases h
          exact Unw.ret (Fin_ret hfin)
theorem L_laws_FnBins {code_0 : (List Int)} {r : Bool} (h : laws_FnBins code_0 = some r) : FL Try.prog cfg 12 [.im 2 false [.row 1 (List.map (eK .u8) code_0)]] = some ([(false, [.im 0 (.sc (.bool r))])], []) := by
  unfold laws_FnBins at h
  refine FL_goS (A := [(0, .v false [.im 2 (.row 1 (List.map (eK .u8) code_0))])]) (B := [(0, none)]) (nt := 105) rfl rfl Try.func12 rfl rfl rfl rfl ?_
  refine Go.seq ?_
  refine Go.r0 c12 rfl rfl (sq z12 (oAsI rfl rfl) <| nl) ?_
  refine Unw.seq ?_
  refine Go.seq ?_
  refine Go.seq ?_
  obtain ⟨x15, hx15, h⟩ := bs h
  refine Go.r0 c12 rfl rfl (sq z12 (oMv rfl rfl) <| sq z12 (oCa (xs := [.v false [.im 2 _]]) (vs := [(false, [.im 0 _])]) (v := .v false [.im 0 _]) (L_laws_b10Long hx15) (.inl rfl) rfl kF14_22 rfl (ppC rfl pp0) rfl rfl pb0 rfl rfl rfl) <| nl) ?_
  refine Unw.seq ?_
  by_cases hc1 : x15 = true
  · rw [if_pos hc1] at h
    refine Go.condT rfl (Iff.rfl.2 hc1) ?_
    refine Go.seq ?_
    refine Go.r0 c12 rfl rfl (sq z12 (oAsI rfl rfl) <| nl) ?_
    refine Unw.seq ?_
    refine Go.ret (Unw.ret ?_)
    cases h
    exact Fin_ret (fin_of rfl rF12 rfl (by kernel_rfl))
  · rw [if_neg hc1] at h
    refine Go.condF rfl (byF Iff.rfl hc1) ?_
    refine Go.skip ?_
    refine Unw.seq ?_
    refine Go.seq ?_
    obtain ⟨x18, hx18, h⟩ := bs h
    refine Go.r0 c12 rfl rfl (sq z12 (oMv rfl rfl) <| sq z12 (oCr (xs := [.v false [.im 2 _]]) (vs := [(true, [.im 0 _, .im 0 _, .im 0 _, .im 0 _]), (false, [.own 18 0 0]), (false, [.im 0 _])]) (v := .tup [(true, [.im 0 _, .im 0 _, .im 0 _, .im 0 _]), (false, [.own 18 0 0]), (false, [.im 0 _])]) (c := ⟨.sh, 0, _⟩) (cs := []) (L_spec_DrawFewestBlades hx18) (.inl rfl) rfl kF75_22 rfl (ppC rfl pp0) rfl rfl pb0 rfl rfl rfl) <| sq z12 (oMvT rfl rfl) <| sq z12 (oEx rfl rfl rfl) <| sq z12 (oEx rfl rfl rfl) <| sq z12 (oEx rfl rfl rfl) <| sq z12 (oAl rfl tF54 (tkI (tkI (tkI (tkI tk0))))) <| sq z12 (oSt tF54 rfl rfl rfl (tkI (tkI (tkI (tkI tk0)))) rfl rfl rfl) <| sq z12 (oAsO rfl rfl rfl rfl rfl) <| sq z12 (oAsI rfl rfl) <| nl) ?_
    refine Unw.seq ?_
    refine Go.seq ?_
    obtain ⟨x26, hx26, h⟩ := bs h
    refine Go.r1 c12 rfl rfl (st1 := mk [(3, .v false [.mp 3 0 0]), (4, .v false [.own 4 0 0]), (5, iv x18.2.2)] [(3, some ⟨0, 0, false, true, false, true, [⟨.imm, 0, 0, .sc (.string x18.1.Name)⟩, ⟨.imm, 0, 0, .sc (.int .i64 x18.1.Life)⟩, ⟨.imm, 0, 0, .sc (.int .i64 x18.1.Price)⟩, ⟨.imm, 0, 0, .sc (.int .i64 x18.1.Speed)⟩]⟩), (4, some ⟨0, 0, false, false, false, false, [⟨.sh, 0, 0, .row 3 (List.map e_S_Cutting x18.2.1)⟩]⟩)]) (by kernel_rfl) (sq z12 (oLd (cs := [.im 0 _, .im 0 _, .im 0 _, .im 0 _]) rfl tF54 rfl rfl) <| sq z12 (oMv rfl rfl) <| sq z12 (oMv rfl rfl) <| sq z12 (oCr (xs := [.v true [.im 0 _, .im 0 _, .im 0 _, .im 0 _], .v false [.own 4 0 0], .v false [.im 0 _]]) (vs := [(false, [.own 26 0 0]), (false, [.im 0 _]), (false, [.im 0 _])]) (v := .tup [(false, [.own 26 0 0]), (false, [.im 0 _]), (false, [.im 0 _])]) (c := ⟨.sh, 0, _⟩) (cs := []) (L_impl_FewestBlades hx26) (.inl rfl) rfl kF37_54_56_2 rfl (ppC rfl (ppC rfl (ppC rfl pp0))) rfl rfl pb0 rfl rfl rfl) <| sq z12 (oMvT rfl rfl) <| sq z12 (oEx rfl rfl rfl) <| sq z12 (oEx rfl rfl rfl) <| sq z12 (oEx rfl rfl rfl) <| sq z12 (oAsO rfl rfl rfl rfl rfl) <| sq z12 (oAsI rfl rfl) <| sq z12 (oAsI rfl rfl) <| nl) ?_
    refine Unw.seq ?_
    refine Go.seq ?_
    obtain ⟨x33, hx33, h⟩ := bs h
    refine Go.r0 c12 rfl rfl (sq z12 (oLd (cs := [.im 0 _, .im 0 _, .im 0 _, .im 0 _]) rfl tF54 rfl rfl) <| sq z12 (oMv rfl rfl) <| sq z12 (oCr (xs := [.v true [.im 0 _, .im 0 _, .im 0 _, .im 0 _], .v false [.own 4 0 0]]) (vs := [(false, [.own 33 0 0]), (false, [.im 0 _]), (false, [.im 0 _])]) (v := .tup [(false, [.own 33 0 0]), (false, [.im 0 _]), (false, [.im 0 _])]) (c := ⟨.sh, 0, _⟩) (cs := []) (L_impl_DecreasingBlades hx33) (.inl rfl) rfl kF76_54_56 rfl (ppC rfl (ppC rfl pp0)) rfl rfl pb0 rfl rfl rfl) <| sq z12 (oMvT rfl rfl) <| sq z12 (oEx rfl rfl rfl) <| sq z12 (oEx rfl rfl rfl) <| sq z12 (oEx rfl rfl rfl) <| sq z12 (oAsO rfl rfl rfl rfl rfl) <| sq z12 (oAsI rfl rfl) <| sq z12 (oAsI rfl rfl) <| nl) ?_
    refine Unw.seq ?_
    refine Go.seq ?_
    refine Go.seq ?_
    refine Go.rX c12 rfl rfl rfl (mk [(3, .v false [.mp 3 0 0]), (4, .v false [.own 4 0 0]), (6, .v false [.own 6 0 0]), (7, iv x26.2.1), (8, iv x26.2.2), (9, .v false [.own 9 0 0]), (10, iv x33.2.1), (11, iv x33.2.2), (42, bv ((x26.2.2 == 1) || (x26.2.2 == 6)))] [(3, some ⟨0, 0, false, true, false, true, [⟨.imm, 0, 0, .sc (.string x18.1.Name)⟩, ⟨.imm, 0, 0, .sc (.int .i64 x18.1.Life)⟩, ⟨.imm, 0, 0, .sc (.int .i64 x18.1.Price)⟩, ⟨.imm, 0, 0, .sc (.int .i64 x18.1.Speed)⟩]⟩), (4, some ⟨0, 0, false, false, false, false, [⟨.sh, 0, 0, .row 3 (List.map e_S_Cutting x18.2.1)⟩]⟩), (6, some ⟨0, 0, false, false, false, false, [⟨.sh, 0, 0, .row 1 (List.map eI x26.1)⟩]⟩), (9, some ⟨0, 0, false, false, false, false, [⟨.sh, 0, 0, .row 1 (List.map eI x33.1)⟩]⟩)]) ?_ ?_
    · by_cases hc2 : x26.2.2 = 1
      · exact ⟨_, sq z12 (oMv rfl rfl) <| sq z12 (oBi rfl rfl rfl rfl) <| sq z12 (oMv rfl rfl) <| sgF rfl rfl (iEq.2 hc2) rfl <| sgF rfl rfl (iEq.2 hc2) rfl <| sq z12 (oPkT rfl rfl (iEq.2 hc2) rfl) <| nl, (Eq.trans (b := (fun t_42_m6 : Bool => mk [(3, .v false [.mp 3 0 0]), (4, .v false [.own 4 0 0]), (6, .v false [.own 6 0 0]), (7, iv x26.2.1), (8, iv x26.2.2), (9, .v false [.own 9 0 0]), (10, iv x33.2.1), (11, iv x33.2.2), (42, bv t_42_m6)] [(3, some ⟨0, 0, false, true, false, true, [⟨.imm, 0, 0, .sc (.string x18.1.Name)⟩, ⟨.imm, 0, 0, .sc (.int .i64 x18.1.Life)⟩, ⟨.imm, 0, 0, .sc (.int .i64 x18.1.Price)⟩, ⟨.imm, 0, 0, .sc (.int .i64 x18.1.Speed)⟩]⟩), (4, some ⟨0, 0, false, false, false, false, [⟨.sh, 0, 0, .row 3 (List.map e_S_Cutting x18.2.1)⟩]⟩), (6, some ⟨0, 0, false, false, false, false, [⟨.sh, 0, 0, .row 1 (List.map eI x26.1)⟩]⟩), (9, some ⟨0, 0, false, false, false, false, [⟨.sh, 0, 0, .row 1 (List.map eI x33.1)⟩]⟩)]) true) (by kernel_rfl) (congrArg (fun t_42_m6 : Bool => mk [(3, .v false [.mp 3 0 0]), (4, .v false [.own 4 0 0]), (6, .v false [.own 6 0 0]), (7, iv x26.2.1), (8, iv x26.2.2), (9, .v false [.own 9 0 0]), (10, iv x33.2.1), (11, iv x33.2.2), (42, bv t_42_m6)] [(3, some ⟨0, 0, false, true, false, true, [⟨.imm, 0, 0, .sc (.string x18.1.Name)⟩, ⟨.imm, 0, 0, .sc (.int .i64 x18.1.Life)⟩, ⟨.imm, 0, 0, .sc (.int .i64 x18.1.Price)⟩, ⟨.imm, 0, 0, .sc (.int .i64 x18.1.Speed)⟩]⟩), (4, some ⟨0, 0, false, false, false, false, [⟨.sh, 0, 0, .row 3 (List.map e_S_Cutting x18.2.1)⟩]⟩), (6, some ⟨0, 0, false, false, false, false, [⟨.sh, 0, 0, .row 1 (List.map eI x26.1)⟩]⟩), (9, some ⟨0, 0, false, false, false, false, [⟨.sh, 0, 0, .row 1 (List.map eI x33.1)⟩]⟩)]) (by first | rfl | (simp [(iEq.2 hc2)]; done) | (simp [(iEq.2 hc2)]; omega))))⟩
      · exact ⟨_, sq z12 (oMv rfl rfl) <| sq z12 (oBi rfl rfl rfl rfl) <| sq z12 (oMv rfl rfl) <| sgT z12 rfl rfl (byF iEq hc2) (oMv rfl rfl) <| sgT z12 rfl rfl (byF iEq hc2) (oBi rfl rfl rfl rfl) <| sq z12 (oPkF rfl rfl (byF iEq hc2) rfl) <| nl, (Eq.trans (b := (fun t_42_m6 : Bool => mk [(3, .v false [.mp 3 0 0]), (4, .v false [.own 4 0 0]), (6, .v false [.own 6 0 0]), (7, iv x26.2.1), (8, iv x26.2.2), (9, .v false [.own 9 0 0]), (10, iv x33.2.1), (11, iv x33.2.2), (42, bv t_42_m6)] [(3, some ⟨0, 0, false, true, false, true, [⟨.imm, 0, 0, .sc (.string x18.1.Name)⟩, ⟨.imm, 0, 0, .sc (.int .i64 x18.1.Life)⟩, ⟨.imm, 0, 0, .sc (.int .i64 x18.1.Price)⟩, ⟨.imm, 0, 0, .sc (.int .i64 x18.1.Speed)⟩]⟩), (4, some ⟨0, 0, false, false, false, false, [⟨.sh, 0, 0, .row 3 (List.map e_S_Cutting x18.2.1)⟩]⟩), (6, some ⟨0, 0, false, false, false, false, [⟨.sh, 0, 0, .row 1 (List.map eI x26.1)⟩]⟩), (9, some ⟨0, 0, false, false, false, false, [⟨.sh, 0, 0, .row 1 (List.map eI x33.1)⟩]⟩)]) (x26.2.2 == 6)) (by kernel_rfl) (congrArg (fun t_42_m6 : Bool => mk [(3, .v false [.mp 3 0 0]), (4, .v false [.own 4 0 0]), (6, .v false [.own 6 0 0]), (7, iv x26.2.1), (8, iv x26.2.2), (9, .v false [.own 9 0 0]), (10, iv x33.2.1), (11, iv x33.2.2), (42, bv t_42_m6)] [(3, some ⟨0, 0, false, true, false, true, [⟨.imm, 0, 0, .sc (.string x18.1.Name)⟩, ⟨.imm, 0, 0, .sc (.int .i64 x18.1.Life)⟩, ⟨.imm, 0, 0, .sc (.int .i64 x18.1.Price)⟩, ⟨.imm, 0, 0, .sc (.int .i64 x18.1.Speed)⟩]⟩), (4, some ⟨0, 0, false, false, false, false, [⟨.sh, 0, 0, .row 3 (List.map e_S_Cutting x18.2.1)⟩]⟩), (6, some ⟨0, 0, false, false, false, false, [⟨.sh, 0, 0, .row 1 (List.map eI x26.1)⟩]⟩), (9, some ⟨0, 0, false, false, false, false, [⟨.sh, 0, 0, .row 1 (List.map eI x33.1)⟩]⟩)]) (by first | rfl | (simp [(byF iEq hc2)]; done) | (simp [(byF iEq hc2)]; omega))))⟩
    · refine Unw.seq ?_
      by_cases hc3 : (x26.2.2 = 1 ∨ x26.2.2 = 6)
      · rw [if_pos hc3] at h
        refine Go.condT rfl ((iOr iEq iEq).2 hc3) ?_
        refine Go.seq ?_
        refine Go.rX c12 rfl rfl rfl (mk [(2, bv ((x33.2.2 == x26.2.2) && (((x26.1.length : Int) == 0) && ((x33.1.length : Int) == 0))))] []) ?_ ?_
        · by_cases hc4 : x33.2.2 = x26.2.2
          · by_cases hc5 : (x26.1.length : Int) = 0
            · exact ⟨_, sq z12 (oMv rfl rfl) <| sq z12 (oMv rfl rfl) <| sq z12 (oBi rfl rfl rfl rfl) <| sq z12 (oMv rfl rfl) <| sgT z12 rfl rfl (iEq.2 hc4) (oMv rfl rfl) <| sgT z12 rfl rfl (iEq.2 hc4) (oLnO rfl rfl uF27 rfl rfl rfl (fun e => nomatch e)) <| sgT z12 rfl rfl (iEq.2 hc4) (oBi rfl rfl rfl rfl) <| sq z12 (oPkT rfl rfl (iEq.2 hc4) rfl) <| sq z12 (oMv rfl rfl) <| sgT z12 rfl rfl (iEq.2 hc5) (oMv rfl rfl) <| sgT z12 rfl rfl (iEq.2 hc5) (oLnO rfl rfl uF27 rfl rfl rfl (fun e => nomatch e)) <| sgT z12 rfl rfl (iEq.2 hc5) (oBi rfl rfl rfl rfl) <| sq z12 (oPkT rfl rfl (iEq.2 hc5) rfl) <| sq z12 (oAsI rfl rfl) <| nl, (Eq.trans (b := (fun t_2_m7 : Bool => mk [(2, bv t_2_m7)] []) ((x33.1.length : Int) == 0)) (by kernel_rfl) (congrArg (fun t_2_m7 : Bool => mk [(2, bv t_2_m7)] []) (by first | rfl | (simp [(iEq.2 hc4), (iEq.2 hc5)]; done) | (simp [(iEq.2 hc4), (iEq.2 hc5)]; omega))))⟩
            · exact ⟨_, sq z12 (oMv rfl rfl) <| sq z12 (oMv rfl rfl) <| sq z12 (oBi rfl rfl rfl rfl) <| sq z12 (oMv rfl rfl) <| sgT z12 rfl rfl (iEq.2 hc4) (oMv rfl rfl) <| sgT z12 rfl rfl (iEq.2 hc4) (oLnO rfl rfl uF27 rfl rfl rfl (fun e => nomatch e)) <| sgT z12 rfl rfl (iEq.2 hc4) (oBi rfl rfl rfl rfl) <| sq z12 (oPkT rfl rfl (iEq.2 hc4) rfl) <| sq z12 (oMv rfl rfl) <| sgF rfl rfl (byF iEq hc5) rfl <| sgF rfl rfl (byF iEq hc5) rfl <| sgF rfl rfl (byF iEq hc5) rfl <| sq z12 (oPkF rfl rfl (byF iEq hc5) rfl) <| sq z12 (oAsI rfl rfl) <| nl, (Eq.trans (b := (fun t_2_m7 : Bool => mk [(2, bv t_2_m7)] []) false) (by kernel_rfl) (congrArg (fun t_2_m7 : Bool => mk [(2, bv t_2_m7)] []) (by first | rfl | (simp [(iEq.2 hc4), (byF iEq hc5)]; done) | (simp [(iEq.2 hc4), (byF iEq hc5)]; omega))))⟩
          · exact ⟨_, sq z12 (oMv rfl rfl) <| sq z12 (oMv rfl rfl) <| sq z12 (oBi rfl rfl rfl rfl) <| sq z12 (oMv rfl rfl) <| sgF rfl rfl (byF iEq hc4) rfl <| sgF rfl rfl (byF iEq hc4) rfl <| sgF rfl rfl (byF iEq hc4) rfl <| sq z12 (oPkF rfl rfl (byF iEq hc4) rfl) <| sq z12 (oMv rfl rfl) <| sgF rfl rfl rfl rfl <| sgF rfl rfl rfl rfl <| sgF rfl rfl rfl rfl <| sq z12 (oPkF rfl rfl rfl rfl) <| sq z12 (oAsI rfl rfl) <| nl, (Eq.trans (b := (fun t_2_m7 : Bool => mk [(2, bv t_2_m7)] []) false) (by kernel_rfl) (congrArg (fun t_2_m7 : Bool => mk [(2, bv t_2_m7)] []) (by first | rfl | (simp [(byF iEq hc4)]; done) | (simp [(byF iEq hc4)]; omega))))⟩
        · refine Unw.seq ?_
          refine Go.ret (Unw.ret ?_)
          cases h
          exact Fin_ret (fin_of rfl rF12 rfl (by kernel_rfl))
      · rw [if_neg hc3] at h
        refine Go.condF rfl (byF (iOr iEq iEq) hc3) ?_
        refine Go.skip ?_
        refine Unw.seq ?_
        refine Go.seq ?_
        obtain ⟨x59, hx59, h⟩ := bs h
        refine Go.r0 c12 rfl rfl (sq z12 (oLd (cs := [.im 0 _, .im 0 _, .im 0 _, .im 0 _]) rfl tF54 rfl rfl) <| sq z12 (oMv rfl rfl) <| sq z12 (oCa (xs := [.v true [.im 0 _, .im 0 _, .im 0 _, .im 0 _], .v false [.own 4 0 0]]) (vs := [(false, [.im 0 _]), (false, [.im 0 _])]) (v := .tup [(false, [.im 0 _]), (false, [.im 0 _])]) (L_impl_BladesBound hx59) (.inl rfl) rfl kF77_54_56 rfl (ppC rfl (ppC rfl pp0)) rfl rfl pb0 rfl rfl rfl) <| sq z12 (oMvT rfl rfl) <| sq z12 (oEx rfl rfl rfl) <| sq z12 (oEx rfl rfl rfl) <| sq z12 (oAsI rfl rfl) <| sq z12 (oAsI rfl rfl) <| nl) ?_
        refine Unw.seq ?_
        refine Go.seq ?_
        refine Go.seq ?_
        obtain ⟨t_80_m9, hm15, h⟩ := bs h
        refine Go.rX c12 rfl rfl rfl (mk [(3, .v false [.mp 3 0 0]), (4, .v false [.own 4 0 0]), (6, .v false [.own 6 0 0]), (7, iv x26.2.1), (8, iv x26.2.2), (10, iv x33.2.1), (12, iv x59.1), (80, bv t_80_m9)] [(3, some ⟨0, 0, false, true, false, true, [⟨.imm, 0, 0, .sc (.string x18.1.Name)⟩, ⟨.imm, 0, 0, .sc (.int .i64 x18.1.Life)⟩, ⟨.imm, 0, 0, .sc (.int .i64 x18.1.Price)⟩, ⟨.imm, 0, 0, .sc (.int .i64 x18.1.Speed)⟩]⟩), (4, some ⟨0, 0, false, false, false, false, [⟨.sh, 0, 0, .row 3 (List.map e_S_Cutting x18.2.1)⟩]⟩), (6, some ⟨0, 0, false, false, false, false, [⟨.sh, 0, 0, .row 1 (List.map eI x26.1)⟩]⟩)]) ?_ ?_
        · by_cases hc6 : x33.2.2 ≠ 0
          · rw [if_pos hc6] at hm15
            cases hm15
            exact ⟨_, sq z12 (oMv rfl rfl) <| sq z12 (oBi rfl rfl rfl rfl) <| sq z12 (oMv rfl rfl) <| sgF rfl rfl (iNe.2 hc6) rfl <| sgF rfl rfl (iNe.2 hc6) rfl <| sq z12 (oPkT rfl rfl (iNe.2 hc6) rfl) <| sq z12 (oMv rfl rfl) <| sgF rfl rfl rfl rfl <| sgF rfl rfl rfl rfl <| sgF rfl rfl rfl rfl <| sq z12 (oPkT rfl rfl rfl rfl) <| sq z12 (oMv rfl rfl) <| sgF rfl rfl rfl rfl <| sgF rfl rfl rfl rfl <| sgF rfl rfl rfl rfl <| sgF rfl rfl rfl rfl <| sgF rfl rfl rfl rfl <| sgF rfl rfl rfl rfl <| sq z12 (oPkT rfl rfl rfl rfl) <| nl, (by kernel_rfl)⟩
          · rw [if_neg hc6] at hm15
            by_cases hc7 : x59.2 ≠ 0
            · rw [if_pos hc7] at hm15
              cases hm15
              exact ⟨_, sq z12 (oMv rfl rfl) <| sq z12 (oBi rfl rfl rfl rfl) <| sq z12 (oMv rfl rfl) <| sgT z12 rfl rfl (byF iNe hc6) (oMv rfl rfl) <| sgT z12 rfl rfl (byF iNe hc6) (oBi rfl rfl rfl rfl) <| sq z12 (oPkF rfl rfl (byF iNe hc6) rfl) <| sq z12 (oMv rfl rfl) <| sgF rfl rfl (iNe.2 hc7) rfl <| sgF rfl rfl (iNe.2 hc7) rfl <| sgF rfl rfl (iNe.2 hc7) rfl <| sq z12 (oPkT rfl rfl (iNe.2 hc7) rfl) <| sq z12 (oMv rfl rfl) <| sgF rfl rfl rfl rfl <| sgF rfl rfl rfl rfl <| sgF rfl rfl rfl rfl <| sgF rfl rfl rfl rfl <| sgF rfl rfl rfl rfl <| sgF rfl rfl rfl rfl <| sq z12 (oPkT rfl rfl rfl rfl) <| nl, (by kernel_rfl)⟩
            · rw [if_neg hc7] at hm15
              by_cases hc8 : x33.2.1 < x59.1
              · rw [if_pos hc8] at hm15
                cases hm15
                exact ⟨_, sq z12 (oMv rfl rfl) <| sq z12 (oBi rfl rfl rfl rfl) <| sq z12 (oMv rfl rfl) <| sgT z12 rfl rfl (byF iNe hc6) (oMv rfl rfl) <| sgT z12 rfl rfl (byF iNe hc6) (oBi rfl rfl rfl rfl) <| sq z12 (oPkF rfl rfl (byF iNe hc6) rfl) <| sq z12 (oMv rfl rfl) <| sgT z12 rfl rfl (byF iNe hc7) (oMv rfl rfl) <| sgT z12 rfl rfl (byF iNe hc7) (oMv rfl rfl) <| sgT z12 rfl rfl (byF iNe hc7) (oBi rfl rfl rfl rfl) <| sq z12 (oPkF rfl rfl (byF iNe hc7) rfl) <| sq z12 (oMv rfl rfl) <| sgF rfl rfl (iDec.2 hc8) rfl <| sgF rfl rfl (iDec.2 hc8) rfl <| sgF rfl rfl (iDec.2 hc8) rfl <| sgF rfl rfl (iDec.2 hc8) rfl <| sgF rfl rfl (iDec.2 hc8) rfl <| sgF rfl rfl (iDec.2 hc8) rfl <| sq z12 (oPkT rfl rfl (iDec.2 hc8) rfl) <| nl, (by kernel_rfl)⟩
              · rw [if_neg hc8] at hm15
                obtain ⟨x78, hx78, hm15⟩ := bs hm15
                cases hm15
                exact ⟨_, sq z12 (oMv rfl rfl) <| sq z12 (oBi rfl rfl rfl rfl) <| sq z12 (oMv rfl rfl) <| sgT z12 rfl rfl (byF iNe hc6) (oMv rfl rfl) <| sgT z12 rfl rfl (byF iNe hc6) (oBi rfl rfl rfl rfl) <| sq z12 (oPkF rfl rfl (byF iNe hc6) rfl) <| sq z12 (oMv rfl rfl) <| sgT z12 rfl rfl (byF iNe hc7) (oMv rfl rfl) <| sgT z12 rfl rfl (byF iNe hc7) (oMv rfl rfl) <| sgT z12 rfl rfl (byF iNe hc7) (oBi rfl rfl rfl rfl) <| sq z12 (oPkF rfl rfl (byF iNe hc7) rfl) <| sq z12 (oMv rfl rfl) <| sgT z12 rfl rfl (byF iDec hc8) (oLd (cs := [.im 0 _, .im 0 _, .im 0 _, .im 0 _]) rfl tF54 rfl rfl) <| sgT z12 rfl rfl (byF iDec hc8) (oMv rfl rfl) <| sgT z12 rfl rfl (byF iDec hc8) (oMv rfl rfl) <| sgT z12 rfl rfl (byF iDec hc8) (oMv rfl rfl) <| sgT z12 rfl rfl (byF iDec hc8) (oCa (xs := [.v true [.im 0 _, .im 0 _, .im 0 _, .im 0 _], .v false [.own 4 0 0], .v false [.own 9 0 0], .v false [.im 0 _]]) (vs := [(false, [.im 0 _])]) (v := .v false [.im 0 _]) (L_laws_b10Bins hx78) (.inl rfl) rfl kF78_54_56_27_2 rfl (ppC rfl (ppC rfl (ppC rfl (ppC rfl pp0)))) rfl rfl pb0 rfl rfl rfl) <| sgT z12 rfl rfl (byF iDec hc8) (oUn rfl rfl rfl) <| sq z12 (oPkF rfl rfl (byF iDec hc8) rfl) <| nl, (by kernel_rfl)⟩
        · refine Unw.seq ?_
          by_cases hc9 : t_80_m9 = true
          · rw [if_pos hc9] at h
            refine Go.condT rfl (Iff.rfl.2 hc9) ?_
            refine Go.seq ?_
            refine Go.r0 c12 rfl rfl (sq z12 (oAsI rfl rfl) <| nl) ?_
            refine Unw.seq ?_
            refine Go.ret (Unw.ret ?_)
            cases h
            exact Fin_ret (fin_of rfl rF12 rfl (by kernel_rfl))
          · rw [if_neg hc9] at h
            refine Go.condF rfl (byF Iff.rfl hc9) ?_
            refine Go.skip ?_
            refine Unw.seq ?_
            refine Go.seq ?_
            refine Go.seq ?_
            refine Go.r0 c12 rfl rfl (sq z12 (oMv rfl rfl) <| sq z12 (oBi rfl rfl rfl rfl) <| nl) ?_
            refine Unw.seq ?_
            by_cases hc10 : x26.2.2 ≠ 0
            · rw [if_pos hc10] at h
              refine Go.condT rfl (iNe.2 hc10) ?_
              refine Go.seq ?_
              refine Go.rX c12 rfl rfl rfl (mk [(2, bv (((x26.1.length : Int) == 0) && (x26.2.1 == 0)))] []) ?_ ?_
              · by_cases hc11 : (x26.1.length : Int) = 0
                · exact ⟨_, sq z12 (oMv rfl rfl) <| sq z12 (oLnO rfl rfl uF27 rfl rfl rfl (fun e => nomatch e)) <| sq z12 (oBi rfl rfl rfl rfl) <| sq z12 (oMv rfl rfl) <| sgT z12 rfl rfl (iEq.2 hc11) (oMv rfl rfl) <| sgT z12 rfl rfl (iEq.2 hc11) (oBi rfl rfl rfl rfl) <| sq z12 (oPkT rfl rfl (iEq.2 hc11) rfl) <| sq z12 (oAsI rfl rfl) <| nl, (Eq.trans (b := (fun t_2_m12 : Bool => mk [(2, bv t_2_m12)] []) (x26.2.1 == 0)) (by kernel_rfl) (congrArg (fun t_2_m12 : Bool => mk [(2, bv t_2_m12)] []) (by first | rfl | (simp [(iEq.2 hc11)]; done) | (simp [(iEq.2 hc11)]; omega))))⟩
                · exact ⟨_, sq z12 (oMv rfl rfl) <| sq z12 (oLnO rfl rfl uF27 rfl rfl rfl (fun e => nomatch e)) <| sq z12 (oBi rfl rfl rfl rfl) <| sq z12 (oMv rfl rfl) <| sgF rfl rfl (byF iEq hc11) rfl <| sgF rfl rfl (byF iEq hc11) rfl <| sq z12 (oPkF rfl rfl (byF iEq hc11) rfl) <| sq z12 (oAsI rfl rfl) <| nl, (Eq.trans (b := (fun t_2_m12 : Bool => mk [(2, bv t_2_m12)] []) false) (by kernel_rfl) (congrArg (fun t_2_m12 : Bool => mk [(2, bv t_2_m12)] []) (by first | rfl | (simp [(byF iEq hc11)]; done) | (simp [(byF iEq hc11)]; omega))))⟩
              · refine Unw.seq ?_
                refine Go.ret (Unw.ret ?_)
                cases h
                exact Fin_ret (fin_of rfl rF12 rfl (by kernel_rfl))
            · rw [if_neg hc10] at h
              refine Go.condF rfl (byF iNe hc10) ?_
              refine Go.skip ?_
              refine Unw.seq ?_
              refine Go.seq ?_
              obtain ⟨t_2_m13, hm14, h⟩ := bs h
              refine Go.rX c12 rfl rfl rfl (mk [(2, bv t_2_m13)] []) ?_ ?_
              · by_cases hc12 : x26.2.1 ≤ x33.2.1
                · rw [if_pos hc12] at hm14
                  by_cases hc13 : x26.2.1 ≥ x59.1
                  · rw [if_pos hc13] at hm14
                    obtain ⟨x103, hx103, hm14⟩ := bs hm14
                    cases hm14
                    exact ⟨_, sq z12 (oMv rfl rfl) <| sq z12 (oMv rfl rfl) <| sq z12 (oBi rfl rfl rfl rfl) <| sq z12 (oMv rfl rfl) <| sgT z12 rfl rfl (iDec.2 hc12) (oMv rfl rfl) <| sgT z12 rfl rfl (iDec.2 hc12) (oMv rfl rfl) <| sgT z12 rfl rfl (iDec.2 hc12) (oBi rfl rfl rfl rfl) <| sq z12 (oPkT rfl rfl (iDec.2 hc12) rfl) <| sq z12 (oMv rfl rfl) <| sgT z12 rfl rfl (iDec.2 hc13) (oLd (cs := [.im 0 _, .im 0 _, .im 0 _, .im 0 _]) rfl tF54 rfl rfl) <| sgT z12 rfl rfl (iDec.2 hc13) (oMv rfl rfl) <| sgT z12 rfl rfl (iDec.2 hc13) (oMv rfl rfl) <| sgT z12 rfl rfl (iDec.2 hc13) (oMv rfl rfl) <| sgT z12 rfl rfl (iDec.2 hc13) (oCa (xs := [.v true [.im 0 _, .im 0 _, .im 0 _, .im 0 _], .v false [.own 4 0 0], .v false [.own 6 0 0], .v false [.im 0 _]]) (vs := [(false, [.im 0 _])]) (v := .v false [.im 0 _]) (L_laws_b10Bins hx103) (.inl rfl) rfl kF78_54_56_27_2 rfl (ppC rfl (ppC rfl (ppC rfl (ppC rfl pp0)))) rfl rfl pb0 rfl rfl rfl) <| sq z12 (oPkT rfl rfl (iDec.2 hc13) rfl) <| sq z12 (oAsI rfl rfl) <| nl, (by kernel_rfl)⟩
                  · rw [if_neg hc13] at hm14
                    cases hm14
                    exact ⟨_, sq z12 (oMv rfl rfl) <| sq z12 (oMv rfl rfl) <| sq z12 (oBi rfl rfl rfl rfl) <| sq z12 (oMv rfl rfl) <| sgT z12 rfl rfl (iDec.2 hc12) (oMv rfl rfl) <| sgT z12 rfl rfl (iDec.2 hc12) (oMv rfl rfl) <| sgT z12 rfl rfl (iDec.2 hc12) (oBi rfl rfl rfl rfl) <| sq z12 (oPkT rfl rfl (iDec.2 hc12) rfl) <| sq z12 (oMv rfl rfl) <| sgF rfl rfl (byF iDec hc13) rfl <| sgF rfl rfl (byF iDec hc13) rfl <| sgF rfl rfl (byF iDec hc13) rfl <| sgF rfl rfl (byF iDec hc13) rfl <| sgF rfl rfl (byF iDec hc13) rfl <| sq z12 (oPkF rfl rfl (byF iDec hc13) rfl) <| sq z12 (oAsI rfl rfl) <| nl, (by kernel_rfl)⟩
                · rw [if_neg hc12] at hm14
                  cases hm14
                  exact ⟨_, sq z12 (oMv rfl rfl) <| sq z12 (oMv rfl rfl) <| sq z12 (oBi rfl rfl rfl rfl) <| sq z12 (oMv rfl rfl) <| sgF rfl rfl (byF iDec hc12) rfl <| sgF rfl rfl (byF iDec hc12) rfl <| sgF rfl rfl (byF iDec hc12) rfl <| sq z12 (oPkF rfl rfl (byF iDec hc12) rfl) <| sq z12 (oMv rfl rfl) <| sgF rfl rfl rfl rfl <| sgF rfl rfl rfl rfl <| sgF rfl rfl rfl rfl <| sgF rfl rfl rfl rfl <| sgF rfl rfl rfl rfl <| sq z12 (oPkF rfl rfl rfl rfl) <| sq z12 (oAsI rfl rfl) <| nl, (by kernel_rfl)⟩
              · refine Unw.seq ?_
                refine Go.ret (Unw.ret ?_)
                cases h
                exact Fin_ret (fin_of rfl rF12 rfl (by kernel_rfl))
end
end Go.Proofs.Ytigjhjlkdamncaa
