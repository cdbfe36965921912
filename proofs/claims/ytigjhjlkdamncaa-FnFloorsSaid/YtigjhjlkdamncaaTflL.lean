/- The machine answers, at each function of the program that is reached, what its plain function answers: a further part. Conditions: none. -/
import Derived.Test.YtigjhjlkdamncaaTflLa
namespace Go.Proofs.Ytigjhjlkdamncaa
open Go Go.Sim Go.Pw Go.Proofs
set_option linter.unusedVariables false
set_option linter.unusedSimpArgs false
set_option maxRecDepth 100000
set_option maxHeartbeats 4000000
noncomputable section

theorem L_impl_GreedyFloor {r_0 : S_Room} {k_1 : S_Stock} {r : ((List Int) × Int)} (h : impl_GreedyFloor r_0 k_1 = some r) : FL Try.prog cfg 70 [.im 2 true [.sc (.int .i64 r_0.Width), .sc (.int .i64 r_0.Length)], .im 2 true [.sc (.int .i64 k_1.Board), .sc (.int .i64 k_1.Wide), .sc (.int .i64 k_1.Least), .sc (.int .i64 k_1.Stagger)]] = some ([(false, [.ow 0 1 (List.map eI r.1)]), (false, [.im 0 (.sc (.int .i64 r.2))])], []) := by
  unfold impl_GreedyFloor at h
  refine FL_goS (A := [(0, .v true [.im 2 (.sc (.int .i64 r_0.Width)), .im 2 (.sc (.int .i64 r_0.Length))]), (1, .v true [.im 2 (.sc (.int .i64 k_1.Board)), .im 2 (.sc (.int .i64 k_1.Wide)), .im 2 (.sc (.int .i64 k_1.Least)), .im 2 (.sc (.int .i64 k_1.Stagger))])]) (B := [(0, none), (1, none)]) (nt := 77) rfl rfl Try.func70 rfl rfl rfl rfl ?_
  refine Go.seq ?_
  refine Go.r0 c70 rfl rfl (sqn z70 rfl (oBx rfl tF99 rfl (tkI (tkI tk0))) <| sqn z70 rfl (oBx rfl tF101 rfl (tkI (tkI (tkI (tkI tk0))))) <| sqn z70 rfl (oAsN rfl rfl eF27) <| sqn z70 rfl (oAsI rfl rfl) <| nl) ?_
  refine Unw.seq ?_
  refine Go.seq ?_
  obtain ⟨x20, hx20, h⟩ := bs h
  refine Go.r0 c70 rfl rfl (sqn z70 rfl (oLd (cs := [.im 0 _, .im 0 _]) rfl tF99 rfl rfl) <| sqn z70 rfl (oLd (cs := [.im 0 _, .im 0 _, .im 0 _, .im 0 _]) rfl tF101 rfl rfl) <| sqn z70 rfl (oCa (xs := [.v true [.im 0 _, .im 0 _], .v true [.im 0 _, .im 0 _, .im 0 _, .im 0 _]]) (vs := [(false, [.im 0 _]), (false, [.im 0 _])]) (v := .tup [(false, [.im 0 _]), (false, [.im 0 _])]) (L_impl_RowCount hx20) (.inl rfl) rfl kF158_99_101 rfl (ppC rfl (ppC rfl pp0)) rfl rfl pb0 rfl rfl rfl) <| sqn z70 rfl (oMvT rfl rfl) <| sqn z70 rfl (oEx rfl rfl rfl) <| sqn z70 rfl (oEx rfl rfl rfl) <| sqn z70 rfl (oAsI rfl rfl) <| sqn z70 rfl (oAsI rfl rfl) <| nl) ?_
  refine Unw.seq ?_
  refine Go.seq ?_
  refine Go.seq ?_
  refine Go.r0 c70 rfl rfl (sqn z70 rfl (oMv rfl rfl) <| sqn z70 rfl (oBi rfl rfl rfl rfl) <| nl) ?_
  refine Unw.seq ?_
  by_cases hc1 : x20.2 ≠ 0
  · rw [if_pos hc1] at h
    refine Go.condT rfl (iNe.2 hc1) ?_
    refine Go.seq ?_
    refine Go.r0 c70 rfl rfl (sqn z70 rfl (oMv rfl rfl) <| sqn z70 rfl (oAsN rfl rfl eF27) <| sqn z70 rfl (oAsI rfl rfl) <| nl) ?_
    refine Unw.seq ?_
    refine Go.ret (Unw.ret ?_)
    cases h
    exact Fin_ret (fin_of rfl rF70 rfl (by kernel_rfl))
  · rw [if_neg hc1] at h
    refine Go.condF rfl (byF iNe hc1) ?_
    refine Go.skip ?_
    refine Unw.seq ?_
    refine Go.seq ?_
    refine Go.r0 c70 rfl rfl (sqn z70 rfl (oBS (es := List.map eI ([] : List Int)) rfl sF27 rfl pt0 (flat0 rfl fun _ => rfl)) <| sqn z70 rfl (oAsO rfl rfl rfl rfl rfl) <| nl) ?_
    refine Unw.seq ?_
    refine Go.seq ?_
    refine Go.r0 c70 rfl rfl (sqf z70 rfl (oAsI rfl rfl) (frzI rfl) <| nl) ?_
    refine Unw.seq ?_
    refine Go.seq ?_
    refine Go.seq ?_
    refine Go.r0 c70 rfl rfl (sqn z70 rfl (oMv rfl rfl) <| sqn z70 rfl (oMv rfl rfl) <| nl) ?_
    refine Unw.seq ?_
    refine Go.block ?_
    obtain ⟨o, hl, h⟩ := bs h
    refine Go.lp c70 rfl _ (fun (s : ((Option S_row) × Int × (List Int))) => match s with | (before_9_l7, t_28_l7, out_o8_l7) => mk [(2, .v false [.mp 2 0 0]), (3, .v false [.mp 3 0 0]), (8, .v false [.own 8 0 0]), (9, .v false [.im 0 (eO e_S_row before_9_l7)]), (27, iv x20.1), (28, iv t_28_l7)] [(2, some ⟨0, 0, false, true, false, true, [⟨.imm, 0, 0, .sc (.int .i64 r_0.Width)⟩, ⟨.imm, 0, 0, .sc (.int .i64 r_0.Length)⟩]⟩), (3, some ⟨0, 0, false, true, false, true, [⟨.imm, 0, 0, .sc (.int .i64 k_1.Board)⟩, ⟨.imm, 0, 0, .sc (.int .i64 k_1.Wide)⟩, ⟨.imm, 0, 0, .sc (.int .i64 k_1.Least)⟩, ⟨.imm, 0, 0, .sc (.int .i64 k_1.Stagger)⟩]⟩), (8, some ⟨0, 0, false, false, false, false, [⟨.sh, 0, 0, .row 1 (List.map eI out_o8_l7)⟩]⟩)]) (fun (o : ((List Int) ⊕ ((List Int) × Int))) (p : Ex × St) => match o with | (.inl out_o8_e0_7) => p.1 = .exit 0 ∧ p.2.norm ([8], [8]) = mk [(8, .v false [.own 8 0 0])] [(8, some ⟨0, 0, false, false, false, false, [⟨.sh, 0, 0, .row 1 (List.map eI out_o8_e0_7)⟩]⟩)] | (.inr r2) => p.1 = .ret ∧ fin Try.prog cfg 70 Try.f70 [.im 2 true [.sc (.int .i64 r_0.Width), .sc (.int .i64 r_0.Length)], .im 2 true [.sc (.int .i64 k_1.Board), .sc (.int .i64 k_1.Wide), .sc (.int .i64 k_1.Least), .sc (.int .i64 k_1.Stagger)]] p.2 = some ([(false, [.ow 0 1 (List.map eI r2.1)]), (false, [.im 0 (.sc (.int .i64 r2.2))])], [])) hl (by kernel_rfl) ?_ ?_ ?_
    · intro o p hp e
      rcases o with out_o8_e0_7 | r2 <;> exact nomatch (hp.1.symm.trans e)
    · rintro ⟨before_9_l7, t_28_l7, out_o8_l7⟩ o h
      unfold impl_GreedyFloor_l7 at h
      dsimp only at h
      refine Go.seq ?_
      refine Go.r0 c70 rfl rfl (sqn z70 rfl (oBi rfl rfl rfl rfl) <| nl) ?_
      refine Unw.seq ?_
      refine Go.seq ?_
      by_cases hc22 : t_28_l7 < x20.1
      · rw [if_pos hc22] at h
        refine Go.condT rfl (iDec.2 hc22) ?_
        refine Go.skip ?_
        refine Unw.seq ?_
        refine Go.seq ?_
        refine Go.block ?_
        refine Go.seq ?_
        refine Go.r0 c70 rfl rfl (sqn z70 rfl (oBS (es := List.map eI ([] : List Int)) rfl sF27 rfl pt0 (flat0 rfl fun _ => rfl)) <| sqn z70 rfl (oAsO rfl rfl rfl rfl rfl) <| nl) ?_
        refine Unw.seq ?_
        refine Go.seq ?_
        refine Go.seq ?_
        obtain ⟨t_32_m9, hm39, h⟩ := bs h
        refine Go.rX c70 rfl rfl rfl (mk [(2, .v false [.mp 2 0 0]), (3, .v false [.mp 3 0 0]), (8, .v false [.own 8 0 0]), (9, .v false [.im 0 (eO e_S_row before_9_l7)]), (10, .v false [.own 10 0 0]), (27, iv x20.1), (28, iv t_28_l7), (32, bv t_32_m9)] [(2, some ⟨0, 0, false, true, false, true, [⟨.imm, 0, 0, .sc (.int .i64 r_0.Width)⟩, ⟨.imm, 0, 0, .sc (.int .i64 r_0.Length)⟩]⟩), (3, some ⟨0, 0, false, true, false, true, [⟨.imm, 0, 0, .sc (.int .i64 k_1.Board)⟩, ⟨.imm, 0, 0, .sc (.int .i64 k_1.Wide)⟩, ⟨.imm, 0, 0, .sc (.int .i64 k_1.Least)⟩, ⟨.imm, 0, 0, .sc (.int .i64 k_1.Stagger)⟩]⟩), (8, some ⟨0, 0, false, false, false, false, [⟨.sh, 0, 0, .row 1 (List.map eI out_o8_l7)⟩]⟩), (10, some ⟨0, 0, false, false, false, false, [⟨.sh, 0, 0, .row 1 (List.map eI ([] : List Int))⟩]⟩)]) ?_ ?_
        · cases before_9_l7 with
          | none =>
            cases hm39
            exact ⟨_, sqn z70 rfl (oMv rfl rfl) <| sqn z70 rfl (oBiU rfl uF252 rfl rfl rfl) <| nl, (by first | (cases before_9_l7 <;> kernel_rfl) | kernel_rfl)⟩
          | some ohc23 =>
            cases hm39
            exact ⟨_, sqn z70 rfl (oMv rfl rfl) <| sqn z70 rfl (oBiU rfl uF252 rfl rfl rfl) <| nl, (by first | (cases before_9_l7 <;> kernel_rfl) | kernel_rfl)⟩
        · refine Unw.seq ?_
          refine Go.join (fun st => ∃ candidates_o10_r11, impl_GreedyFloor_k11 before_9_l7 k_1 out_o8_l7 r_0 t_28_l7 candidates_o10_r11 = some o ∧ st.norm ([2, 3, 8, 9, 10, 27, 28], [2, 3, 8, 10]) = mk [(2, .v false [.mp 2 0 0]), (3, .v false [.mp 3 0 0]), (8, .v false [.own 8 0 0]), (9, .v false [.im 0 (eO e_S_row before_9_l7)]), (10, .v false [.own 10 0 0]), (27, iv x20.1), (28, iv t_28_l7)] [(2, some ⟨0, 0, false, true, false, true, [⟨.imm, 0, 0, .sc (.int .i64 r_0.Width)⟩, ⟨.imm, 0, 0, .sc (.int .i64 r_0.Length)⟩]⟩), (3, some ⟨0, 0, false, true, false, true, [⟨.imm, 0, 0, .sc (.int .i64 k_1.Board)⟩, ⟨.imm, 0, 0, .sc (.int .i64 k_1.Wide)⟩, ⟨.imm, 0, 0, .sc (.int .i64 k_1.Least)⟩, ⟨.imm, 0, 0, .sc (.int .i64 k_1.Stagger)⟩]⟩), (8, some ⟨0, 0, false, false, false, false, [⟨.sh, 0, 0, .row 1 (List.map eI out_o8_l7)⟩]⟩), (10, some ⟨0, 0, false, false, false, false, [⟨.sh, 0, 0, .row 1 (List.map eI candidates_o10_r11)⟩]⟩)]) ?_ ?_
          · rintro st ⟨candidates_o10_r11, h, hst⟩
            unfold impl_GreedyFloor_k11 at h
            refine Unw.seq ?_
            refine Go.seq ?_
            refine Go.seq ?_
            refine Go.r1 c70 rfl rfl hst (sqn z70 rfl (oFA (r' := .mp 3 0 0) rfl fF101_0 rfl rfl) <| sqn z70 rfl (oLd (cs := [.im 0 _]) rfl tF2 rfl rfl) <| sqn z70 rfl (oAsI rfl rfl) <| nl) ?_
            refine Unw.seq ?_
            refine Go.block ?_
            obtain ⟨o, hl, h⟩ := bs h
            refine Go.lp c70 rfl _ (fun (s : (Int × (List Int))) => match s with | (first_11_l12, candidates_o10_l12) => mk [(2, .v false [.mp 2 0 0]), (3, .v false [.mp 3 0 0]), (8, .v false [.own 8 0 0]), (9, .v false [.im 0 (eO e_S_row before_9_l7)]), (10, .v false [.own 10 0 0]), (11, iv first_11_l12), (27, iv x20.1), (28, iv t_28_l7)] [(2, some ⟨0, 0, false, true, false, true, [⟨.imm, 0, 0, .sc (.int .i64 r_0.Width)⟩, ⟨.imm, 0, 0, .sc (.int .i64 r_0.Length)⟩]⟩), (3, some ⟨0, 0, false, true, false, true, [⟨.imm, 0, 0, .sc (.int .i64 k_1.Board)⟩, ⟨.imm, 0, 0, .sc (.int .i64 k_1.Wide)⟩, ⟨.imm, 0, 0, .sc (.int .i64 k_1.Least)⟩, ⟨.imm, 0, 0, .sc (.int .i64 k_1.Stagger)⟩]⟩), (8, some ⟨0, 0, false, false, false, false, [⟨.sh, 0, 0, .row 1 (List.map eI out_o8_l7)⟩]⟩), (10, some ⟨0, 0, false, false, false, false, [⟨.sh, 0, 0, .row 1 (List.map eI candidates_o10_l12)⟩]⟩)]) (fun (candidates_o10_e2_12 : (List Int)) (p : Ex × St) => p.1 = .exit 2 ∧ p.2.norm ([2, 3, 8, 9, 10, 27, 28], [2, 3, 8, 10]) = mk [(2, .v false [.mp 2 0 0]), (3, .v false [.mp 3 0 0]), (8, .v false [.own 8 0 0]), (9, .v false [.im 0 (eO e_S_row before_9_l7)]), (10, .v false [.own 10 0 0]), (27, iv x20.1), (28, iv t_28_l7)] [(2, some ⟨0, 0, false, true, false, true, [⟨.imm, 0, 0, .sc (.int .i64 r_0.Width)⟩, ⟨.imm, 0, 0, .sc (.int .i64 r_0.Length)⟩]⟩), (3, some ⟨0, 0, false, true, false, true, [⟨.imm, 0, 0, .sc (.int .i64 k_1.Board)⟩, ⟨.imm, 0, 0, .sc (.int .i64 k_1.Wide)⟩, ⟨.imm, 0, 0, .sc (.int .i64 k_1.Least)⟩, ⟨.imm, 0, 0, .sc (.int .i64 k_1.Stagger)⟩]⟩), (8, some ⟨0, 0, false, false, false, false, [⟨.sh, 0, 0, .row 1 (List.map eI out_o8_l7)⟩]⟩), (10, some ⟨0, 0, false, false, false, false, [⟨.sh, 0, 0, .row 1 (List.map eI candidates_o10_e2_12)⟩]⟩)]) hl (by first | (cases before_9_l7 <;> kernel_rfl) | kernel_rfl) ?_ ?_ ?_
            · intro o p hp e
              exact nomatch (hp.1.symm.trans e)
            · rintro ⟨first_11_l12, candidates_o10_l12⟩ o h
              unfold impl_GreedyFloor_l12 at h
              dsimp only at h
              refine Go.seq ?_
              refine Go.seq ?_
              refine Go.r0 c70 rfl rfl (sqn z70 rfl (oMv rfl rfl) <| sqn z70 rfl (oFA (r' := .mp 3 0 2) rfl fF101_2 rfl rfl) <| sqn z70 rfl (oLd (cs := [.im 0 _]) rfl tF2 rfl rfl) <| sqn z70 rfl (oBi rfl rfl rfl rfl) <| nl) ?_
              refine Unw.seq ?_
              by_cases hc35 : first_11_l12 ≥ k_1.Least
              · rw [if_pos hc35] at h
                refine Go.condT rfl (iDec.2 hc35) ?_
                refine Go.skip ?_
                refine Unw.seq ?_
                refine Go.seq ?_
                refine Go.block ?_
                obtain ⟨x52, hx52, h⟩ := bs h
                refine Go.r0 c70 rfl rfl (sqn z70 rfl (oMv rfl rfl) <| sqn z70 rfl (oMv rfl rfl) <| sqn z70 rfl (oBS (es := List.map eI ([first_11_l12] : List Int)) rfl sF27 rfl (ptC rfl (fxI fx0) rfl pt0) (flat0 rfl fun _ => rfl)) <| sqn z70 rfl (oApO (en := eI) (M := ([first_11_l12] : List Int)) rfl hx52 rfl sF27 rfl rfl uF27 (.inl ⟨_, rfl⟩) rfl rfl rfl rfl (el_own rfl rfl) (flat0 rfl fun _ => rfl)) <| sqn z70 rfl (oAsO rfl rfl rfl rfl rfl) <| nl) ?_
                refine Unw.blk ?_
                refine Unw.seq ?_
                refine Go.r0 c70 rfl rfl (sqn z70 rfl (oMv rfl rfl) <| sqn z70 rfl (oBi rfl rfl rfl rfl) <| sqn z70 rfl (oAsI rfl rfl) <| nl) ?_
                refine Unw.nil ?_
                cases h
                exact ⟨rfl, (by first | (cases before_9_l7 <;> kernel_rfl) | kernel_rfl)⟩
              · rw [if_neg hc35] at h
                refine Go.condF rfl (byF iDec hc35) ?_
                refine Go.exit ?_
                refine Unw.seqx ?_
                refine Unw.nil ?_
                cases h
                exact ⟨rfl, (by first | (cases before_9_l7 <;> kernel_rfl) | kernel_rfl)⟩
            · rintro ⟨e, st⟩ hp
              obtain ⟨candidates_o10_e2_12, rfl⟩ : ∃ y, y = o := ⟨o, rfl⟩
              obtain ⟨he, hst⟩ := hp
              obtain rfl : e = .exit 2 := he
              refine Unw.blkx ?_
              refine Unw.seq ?_
              refine Go.seq ?_
              refine Go.r1 c70 rfl rfl hst (sqn z70 rfl (oAsI rfl rfl) <| nl) ?_
              refine Unw.seq ?_
              refine Go.seq ?_
              refine Go.seq ?_
              refine Go.r0 c70 rfl rfl (sqn z70 rfl (oMv rfl rfl) <| sqn z70 rfl (oLnO rfl rfl uF27 rfl rfl rfl (fun e => nomatch e)) <| sqn z70 rfl (oMv rfl rfl) <| nl) ?_
              refine Unw.seq ?_
              refine Go.block ?_
              obtain ⟨o, hl, h⟩ := bs h
              refine Go.lp c70 rfl _ (fun (t_55_l17 : Int) => mk [(2, .v false [.mp 2 0 0]), (3, .v false [.mp 3 0 0]), (8, .v false [.own 8 0 0]), (9, .v false [.im 0 (eO e_S_row before_9_l7)]), (12, bv false), (27, iv x20.1), (28, iv t_28_l7), (53, .v false [.own 10 0 0]), (54, iv (candidates_o10_e2_12.length : Int)), (55, iv t_55_l17)] [(2, some ⟨0, 0, false, true, false, true, [⟨.imm, 0, 0, .sc (.int .i64 r_0.Width)⟩, ⟨.imm, 0, 0, .sc (.int .i64 r_0.Length)⟩]⟩), (3, some ⟨0, 0, false, true, false, true, [⟨.imm, 0, 0, .sc (.int .i64 k_1.Board)⟩, ⟨.imm, 0, 0, .sc (.int .i64 k_1.Wide)⟩, ⟨.imm, 0, 0, .sc (.int .i64 k_1.Least)⟩, ⟨.imm, 0, 0, .sc (.int .i64 k_1.Stagger)⟩]⟩), (8, some ⟨0, 0, false, false, false, false, [⟨.sh, 0, 0, .row 1 (List.map eI out_o8_l7)⟩]⟩), (10, some ⟨0, 0, false, false, false, false, [⟨.sh, 0, 0, .row 1 (List.map eI candidates_o10_e2_12)⟩]⟩)]) (fun (o : ((Option S_row) × Bool × (List Int))) (p : Ex × St) => match o with | (before_9_e4_17, found_12_e4_17, out_o8_e4_17) => p.1 = .exit 4 ∧ p.2.norm ([2, 3, 8, 9, 12, 27, 28], [2, 3, 8]) = mk [(2, .v false [.mp 2 0 0]), (3, .v false [.mp 3 0 0]), (8, .v false [.own 8 0 0]), (9, .v false [.im 0 (eO e_S_row before_9_e4_17)]), (12, bv found_12_e4_17), (27, iv x20.1), (28, iv t_28_l7)] [(2, some ⟨0, 0, false, true, false, true, [⟨.imm, 0, 0, .sc (.int .i64 r_0.Width)⟩, ⟨.imm, 0, 0, .sc (.int .i64 r_0.Length)⟩]⟩), (3, some ⟨0, 0, false, true, false, true, [⟨.imm, 0, 0, .sc (.int .i64 k_1.Board)⟩, ⟨.imm, 0, 0, .sc (.int .i64 k_1.Wide)⟩, ⟨.imm, 0, 0, .sc (.int .i64 k_1.Least)⟩, ⟨.imm, 0, 0, .sc (.int .i64 k_1.Stagger)⟩]⟩), (8, some ⟨0, 0, false, false, false, false, [⟨.sh, 0, 0, .row 1 (List.map eI out_o8_e4_17)⟩]⟩)]) hl (by first | (cases before_9_l7 <;> kernel_rfl) | kernel_rfl) ?_ ?_ ?_
              · intro o p hp e
                obtain ⟨before_9_e4_17, found_12_e4_17, out_o8_e4_17⟩ := o
                exact nomatch (hp.1.symm.trans e)
              · rintro t_55_l17 o h
                unfold impl_GreedyFloor_l17 at h
                refine Go.seq ?_
                refine Go.r0 c70 rfl rfl (sqn z70 rfl (oBi rfl rfl rfl rfl) <| nl) ?_
                refine Unw.seq ?_
                refine Go.seq ?_
                by_cases hc33 : t_55_l17 < (candidates_o10_e2_12.length : Int)
                · rw [if_pos hc33] at h
                  refine Go.condT rfl (iDec.2 hc33) ?_
                  refine Go.skip ?_
                  refine Unw.seq ?_
                  refine Go.seq ?_
                  refine Go.block ?_
                  refine Go.seq ?_
                  obtain ⟨x57, hx57, h⟩ := bs h
                  refine Go.r0 c70 rfl rfl (sqn z70 rfl (oIAO rfl hx57 sF27 rfl rfl rfl rfl) <| sqn z70 rfl (oLdE (cs := [.im 0 _]) rfl tF2 rfl rfl rfl (fun e => nomatch e) (rd_get hx57) rfl rfl) <| sqn z70 rfl (oAsI rfl rfl) <| nl) ?_
                  refine Unw.seq ?_
                  refine Go.seq ?_
                  obtain ⟨x64, hx64, h⟩ := bs h
                  refine Go.r0 c70 rfl rfl (sqn z70 rfl (oLd (cs := [.im 0 _, .im 0 _]) rfl tF99 rfl rfl) <| sqn z70 rfl (oLd (cs := [.im 0 _, .im 0 _, .im 0 _, .im 0 _]) rfl tF101 rfl rfl) <| sqn z70 rfl (oMv rfl rfl) <| sqn z70 rfl (oMv rfl rfl) <| sqn z70 rfl (oCr (xs := [.v true [.im 0 _, .im 0 _], .v true [.im 0 _, .im 0 _, .im 0 _, .im 0 _], .v false [.im 0 _], .v false [.im 0 _]]) (vs := [(true, [.own 64 0 0, .own 64 0 1, .im 0 _]), (false, [.im 0 _])]) (v := .tup [(true, [.own 64 0 0, .own 64 0 1, .im 0 _]), (false, [.im 0 _])]) (c := ⟨.sh, 0, _⟩) (cs := [⟨.sh, 0, _⟩]) (L_impl_possible hx64) (.inl rfl) rfl kF161_99_101_252_2 rfl (ppC rfl (ppC rfl (ppC rfl (ppC rfl pp0)))) rfl rfl pb0 rfl rfl rfl) <| sqn z70 rfl (oMvT rfl rfl) <| sqn z70 rfl (oEx rfl rfl rfl) <| sqn z70 rfl (oEx rfl rfl rfl) <| sqn z70 rfl (oAl rfl tF255 (tkN (tkN (tkI tk0)))) <| sq0 (oSt tF255 rfl rfl rfl (tkO rfl rfl (tkO rfl rfl (tkI tk0))) rfl rfl rfl) <| sqn z70 rfl (oAsI rfl rfl) <| nl) ?_
                  refine Unw.seq ?_
                  refine Go.seq ?_
                  refine Go.r1 c70 rfl rfl (st1 := mk [(2, .v false [.mp 2 0 0]), (3, .v false [.mp 3 0 0]), (8, .v false [.own 8 0 0]), (9, .v false [.im 0 (eO e_S_row before_9_l7)]), (12, bv false), (14, iv x57), (15, .v false [.mp 15 0 0]), (16, bv x64.2), (27, iv x20.1), (28, iv t_28_l7), (53, .v false [.own 10 0 0]), (54, iv (candidates_o10_e2_12.length : Int)), (55, iv t_55_l17)] [(2, some ⟨0, 0, false, true, false, true, [⟨.imm, 0, 0, .sc (.int .i64 r_0.Width)⟩, ⟨.imm, 0, 0, .sc (.int .i64 r_0.Length)⟩]⟩), (3, some ⟨0, 0, false, true, false, true, [⟨.imm, 0, 0, .sc (.int .i64 k_1.Board)⟩, ⟨.imm, 0, 0, .sc (.int .i64 k_1.Wide)⟩, ⟨.imm, 0, 0, .sc (.int .i64 k_1.Least)⟩, ⟨.imm, 0, 0, .sc (.int .i64 k_1.Stagger)⟩]⟩), (8, some ⟨0, 0, false, false, false, false, [⟨.sh, 0, 0, .row 1 (List.map eI out_o8_l7)⟩]⟩), (10, some ⟨0, 0, false, false, false, false, [⟨.sh, 0, 0, .row 1 (List.map eI candidates_o10_e2_12)⟩]⟩), (15, some ⟨0, 0, false, true, false, true, [⟨.sh, 0, 0, .row 1 (List.map eI x64.1.pieces)⟩, ⟨.sh, 0, 0, .row 1 (List.map eI x64.1.joints)⟩, ⟨.imm, 0, 0, .sc (.int .i64 x64.1.last)⟩]⟩)]) (by first | (cases before_9_l7 <;> kernel_rfl) | kernel_rfl) (sqn z70 rfl (oMv rfl rfl) <| nl) ?_
                  refine Unw.seq ?_
                  by_cases hc34 : x64.2 = true
                  · rw [if_pos hc34] at h
                    refine Go.condT rfl (Iff.rfl.2 hc34) ?_
                    refine Go.seq ?_
                    obtain ⟨x71, hx71, h⟩ := bs h
                    refine Go.r0 c70 rfl rfl (sqn z70 rfl (oMv rfl rfl) <| sqn z70 rfl (oMv rfl rfl) <| sqn z70 rfl (oBS (es := List.map eI ([x57] : List Int)) rfl sF27 rfl (ptC rfl (fxI fx0) rfl pt0) (flat0 rfl fun _ => rfl)) <| sqn z70 rfl (oApO (en := eI) (M := ([x57] : List Int)) rfl hx71 rfl sF27 rfl rfl uF27 (.inl ⟨_, rfl⟩) rfl rfl rfl rfl (el_own rfl rfl) (flat0 rfl fun _ => rfl)) <| sqn z70 rfl (oAsO rfl rfl rfl rfl rfl) <| sqf z70 rfl (oAsP rfl rfl) (frzM rfl rfl rfl rfl) <| sqn z70 rfl (oAsI rfl rfl) <| nl) ?_
                    refine Unw.seq ?_
                    refine Go.exit ?_
                    refine Unw.blkn rfl ?_
                    refine Unw.seqx ?_
                    refine Unw.nil ?_
                    cases h
                    exact ⟨rfl, (by kernel_rfl)⟩
                  · rw [if_neg hc34] at h
                    refine Go.condF rfl (byF Iff.rfl hc34) ?_
                    refine Go.skip ?_
                    refine Unw.blk ?_
                    refine Unw.seq ?_
                    refine Go.r0 c70 rfl rfl (sqn z70 rfl (oBi rfl rfl rfl rfl) <| sqn z70 rfl (oMv rfl rfl) <| nl) ?_
                    refine Unw.nil ?_
                    cases h
                    exact ⟨rfl, (by first | (cases before_9_l7 <;> kernel_rfl) | kernel_rfl)⟩
                · rw [if_neg hc33] at h
                  refine Go.condF rfl (byF iDec hc33) ?_
                  refine Go.exit ?_
                  refine Unw.seqx ?_
                  refine Unw.nil ?_
                  cases h
                  exact ⟨rfl, (by first | (cases before_9_l7 <;> kernel_rfl) | kernel_rfl)⟩
              · rintro ⟨e, st⟩ hp
                obtain ⟨before_9_e4_17, found_12_e4_17, out_o8_e4_17⟩ := o
                dsimp only at h
                obtain ⟨he, hst⟩ := hp
                obtain rfl : e = .exit 4 := he
                refine Unw.blkx ?_
                refine Unw.seq ?_
                refine Go.seq ?_
                refine Go.r1 c70 rfl rfl hst (sqn z70 rfl (oMv rfl rfl) <| sqn z70 rfl (oUn rfl rfl rfl) <| nl) ?_
                refine Unw.seq ?_
                by_cases hc32 : found_12_e4_17 = true
                · rw [if_pos hc32] at h
                  refine Go.condF rfl (nF (Iff.rfl.2 hc32)) ?_
                  refine Go.skip ?_
                  refine Unw.blk ?_
                  refine Unw.seq ?_
                  refine Go.r0 c70 rfl rfl (sqn z70 rfl (oBi rfl rfl rfl rfl) <| sqn z70 rfl (oMv rfl rfl) <| nl) ?_
                  refine Unw.nil ?_
                  cases h
                  exact ⟨rfl, (by first | (cases before_9_e4_17 <;> kernel_rfl) | kernel_rfl)⟩
                · rw [if_neg hc32] at h
                  refine Go.condT rfl (nT (byF Iff.rfl hc32)) ?_
                  refine Go.seq ?_
                  refine Go.r0 c70 rfl rfl (sqn z70 rfl (oAsN rfl rfl eF27) <| sqn z70 rfl (oAsI rfl rfl) <| nl) ?_
                  refine Unw.seq ?_
                  refine Go.ret (Unw.ret ?_)
                  cases h
                  exact ⟨rfl, (fin_of rfl rF70 rfl (by kernel_rfl))⟩
          · intro K36
            by_cases hc37 : t_32_m9 = true
            · rw [if_pos hc37] at h
              refine Go.condT rfl (Iff.rfl.2 hc37) ?_
              cases before_9_l7 with
              | none =>
                cases h
              | some ohc38 =>
                obtain ⟨x38, hx38, h⟩ := bs h
                obtain ⟨x40, hx40, h⟩ := bs h
                refine Go.dr c70 rfl rfl rfl rfl (mk [(2, .v false [.mp 2 0 0]), (3, .v false [.mp 3 0 0]), (8, .v false [.own 8 0 0]), (9, .v false [.im 0 (eO e_S_row (some ohc38))]), (10, .v false [.own 10 0 0]), (27, iv x20.1), (28, iv t_28_l7)] [(2, some ⟨0, 0, false, true, false, true, [⟨.imm, 0, 0, .sc (.int .i64 r_0.Width)⟩, ⟨.imm, 0, 0, .sc (.int .i64 r_0.Length)⟩]⟩), (3, some ⟨0, 0, false, true, false, true, [⟨.imm, 0, 0, .sc (.int .i64 k_1.Board)⟩, ⟨.imm, 0, 0, .sc (.int .i64 k_1.Wide)⟩, ⟨.imm, 0, 0, .sc (.int .i64 k_1.Least)⟩, ⟨.imm, 0, 0, .sc (.int .i64 k_1.Stagger)⟩]⟩), (8, some ⟨0, 0, false, false, false, false, [⟨.sh, 0, 0, .row 1 (List.map eI out_o8_l7)⟩]⟩), (10, some ⟨0, 0, false, false, false, false, [⟨.sh, 0, 0, .row 1 (List.map eI x40)⟩]⟩)]) ?_ ?_
                · exact sT rfl (dNn z70 rfl rfl (oMv rfl rfl)) <| sT rfl (dNn z70 rfl rfl (oMv rfl rfl)) <| sT rfl (dNn z70 rfl rfl (oNl rfl rfl rfl)) <| sT rfl (dNn z70 rfl rfl (oLd (cs := [.im 0 _, .im 0 _, .im 0 _]) rfl tF255 rfl rfl)) <| sT rfl (dNn z70 rfl rfl (oLd (cs := [.im 0 _, .im 0 _, .im 0 _, .im 0 _]) rfl tF101 rfl rfl)) <| sS (dNn z70 rfl rfl (oCa (xs := [.v true [.im 0 _, .im 0 _, .im 0 _], .v true [.im 0 _, .im 0 _, .im 0 _, .im 0 _]]) (vs := [(false, [.im 0 _])]) (v := .v false [.im 0 _]) (L_impl_row_left hx38) (.inl rfl) rfl kF160_252_101 rfl (ppC rfl (ppC rfl pp0)) rfl rfl pb0 rfl rfl rfl)) trivial (sS (dNn z70 rfl rfl (oBS (es := List.map eI ([x38] : List Int)) rfl sF27 rfl (ptC rfl (fxI fx0) rfl pt0) (flat0 rfl fun _ => rfl))) trivial (sS (dNn z70 rfl rfl (oApO (en := eI) (M := ([x38] : List Int)) rfl hx40 rfl sF27 rfl rfl uF27 (.inl ⟨_, rfl⟩) rfl rfl rfl rfl (el_own rfl rfl) (flat0 rfl fun _ => rfl))) trivial (sS (dNn z70 rfl rfl (oAsO rfl rfl rfl rfl rfl)) trivial (sD (by first | (cases (some ohc38) <;> kernel_rfl) | kernel_rfl)))))
                · exact K36 _ ⟨x40, h, (by first | (cases (some ohc38) <;> kernel_rfl) | kernel_rfl)⟩
            · rw [if_neg hc37] at h
              refine Go.condF rfl (byF Iff.rfl hc37) ?_
              refine Go.skip ?_
              exact K36 _ ⟨([] : List Int), h, (by first | (cases before_9_l7 <;> kernel_rfl) | kernel_rfl)⟩
      · rw [if_neg hc22] at h
        refine Go.condF rfl (byF iDec hc22) ?_
        refine Go.exit ?_
        refine Unw.seqx ?_
        refine Unw.nil ?_
        cases h
        exact ⟨rfl, (by first | (cases before_9_l7 <;> kernel_rfl) | kernel_rfl)⟩
    · rintro ⟨e, st⟩ hp
      rcases o with out_o8_e0_7 | r2
      · dsimp only at h
        obtain ⟨he, hst⟩ := hp
        obtain rfl : e = .exit 0 := he
        refine Unw.blkx ?_
        refine Unw.seq ?_
        refine Go.seq ?_
        refine Go.r1 c70 rfl rfl hst (sqn z70 rfl (oMv rfl rfl) <| sqn z70 rfl (oAsO rfl rfl rfl rfl rfl) <| sqn z70 rfl (oAsI rfl rfl) <| nl) ?_
        refine Unw.seq ?_
        refine Go.ret (Unw.ret ?_)
        cases h
        exact Fin_ret (fin_of rfl rF70 rfl (by kernel_rfl))
      · dsimp only at h
        obtain ⟨he, hfin⟩ := hp
        obtain rfl : e = .ret := he
        cases h
        exact Unw.ret (Fin_ret hfin)
theorem L_impl_floorRows {r_0 : S_Room} {k_1 : S_Stock} {firsts_2 : (List Int)} {r : ((List S_row) × Bool)} (h : impl_floorRows r_0 k_1 firsts_2 = some r) : FL Try.prog cfg 163 [.im 2 true [.sc (.int .i64 r_0.Width), .sc (.int .i64 r_0.Length)], .im 2 true [.sc (.int .i64 k_1.Board), .sc (.int .i64 k_1.Wide), .sc (.int .i64 k_1.Least), .sc (.int .i64 k_1.Stagger)], .im 2 false [.row 1 (List.map eI firsts_2)]] = some ([(false, [.ow 0 3 (List.map e_S_row r.1)]), (false, [.im 0 (.sc (.bool r.2))])], []) := by
  unfold impl_floorRows at h
  refine FL_goS (A := [(0, .v true [.im 2 (.sc (.int .i64 r_0.Width)), .im 2 (.sc (.int .i64 r_0.Length))]), (1, .v true [.im 2 (.sc (.int .i64 k_1.Board)), .im 2 (.sc (.int .i64 k_1.Wide)), .im 2 (.sc (.int .i64 k_1.Least)), .im 2 (.sc (.int .i64 k_1.Stagger))]), (2, .v false [.im 2 (.row 1 (List.map eI firsts_2))])]) (B := [(0, none), (1, none), (2, none)]) (nt := 57) rfl rfl Try.func163 rfl rfl rfl rfl ?_
  refine Go.seq ?_
  refine Go.r0 c163 rfl rfl (sq z163 (oBx rfl tF99 rfl (tkI (tkI tk0))) <| sq z163 (oBx rfl tF101 rfl (tkI (tkI (tkI (tkI tk0))))) <| sq z163 (oAsN rfl rfl eF259) <| sq z163 (oAsI rfl rfl) <| nl) ?_
  refine Unw.seq ?_
  refine Go.seq ?_
  refine Go.seq ?_
  obtain ⟨x17, hx17, h⟩ := bs h
  refine Go.r0 c163 rfl rfl (sq z163 (oMv rfl rfl) <| sq z163 (oLnI rfl rfl uF27 rfl) <| sq z163 (oLd (cs := [.im 0 _, .im 0 _]) rfl tF99 rfl rfl) <| sq z163 (oLd (cs := [.im 0 _, .im 0 _, .im 0 _, .im 0 _]) rfl tF101 rfl rfl) <| sq z163 (oCa (xs := [.v true [.im 0 _, .im 0 _], .v true [.im 0 _, .im 0 _, .im 0 _, .im 0 _]]) (vs := [(false, [.im 0 _])]) (v := .v false [.im 0 _]) (L_impl_rows hx17) (.inl rfl) rfl kF231_99_101 rfl (ppC rfl (ppC rfl pp0)) rfl rfl pb0 rfl rfl rfl) <| sq z163 (oBi rfl rfl rfl rfl) <| nl) ?_
  refine Unw.seq ?_
  by_cases hc1 : (firsts_2.length : Int) ≠ x17
  · rw [if_pos hc1] at h
    refine Go.condT rfl (iNe.2 hc1) ?_
    refine Go.seq ?_
    refine Go.r0 c163 rfl rfl (sq z163 (oAsN rfl rfl eF259) <| sq z163 (oAsI rfl rfl) <| nl) ?_
    refine Unw.seq ?_
    refine Go.ret (Unw.ret ?_)
    cases h
    exact Fin_ret (fin_of rfl rF163 rfl (by kernel_rfl))
  · rw [if_neg hc1] at h
    refine Go.condF rfl (byF iNe hc1) ?_
    refine Go.skip ?_
    refine Unw.seq ?_
    refine Go.seq ?_
    refine Go.r0 c163 rfl rfl (sq z163 (oBS (es := List.map e_S_row ([] : List S_row)) rfl sF259 rfl pt0 (flat1 rfl)) <| sq z163 (oAsO rfl rfl rfl rfl rfl) <| nl) ?_
    refine Unw.seq ?_
    refine Go.seq ?_
    refine Go.seq ?_
    refine Go.r0 c163 rfl rfl (sq z163 (oMv rfl rfl) <| sq z163 (oLnI rfl rfl uF27 rfl) <| sq z163 (oMv rfl rfl) <| nl) ?_
    refine Unw.seq ?_
    refine Go.block ?_
    obtain ⟨o, hl, h⟩ := bs h
    refine Go.lp c163 rfl _ (fun (s : (Int × (List S_row))) => match s with | (t_22_l5, out_o8_l5) => mk [(3, .v false [.mp 3 0 0]), (4, .v false [.mp 4 0 0]), (8, .v false [.own 8 0 0]), (20, .v false [.im 2 (.row 1 (List.map eI firsts_2))]), (21, iv (firsts_2.length : Int)), (22, iv t_22_l5)] [(3, some ⟨0, 0, false, true, false, true, [⟨.imm, 0, 0, .sc (.int .i64 r_0.Width)⟩, ⟨.imm, 0, 0, .sc (.int .i64 r_0.Length)⟩]⟩), (4, some ⟨0, 0, false, true, false, true, [⟨.imm, 0, 0, .sc (.int .i64 k_1.Board)⟩, ⟨.imm, 0, 0, .sc (.int .i64 k_1.Wide)⟩, ⟨.imm, 0, 0, .sc (.int .i64 k_1.Least)⟩, ⟨.imm, 0, 0, .sc (.int .i64 k_1.Stagger)⟩]⟩), (8, some ⟨0, 0, false, false, false, false, [⟨.sh, 0, 0, .row 3 (List.map e_S_row out_o8_l5)⟩]⟩)]) (fun (o : ((List S_row) ⊕ ((List S_row) × Bool))) (p : Ex × St) => match o with | (.inl out_o8_e0_5) => p.1 = .exit 0 ∧ p.2.norm ([8], [8]) = mk [(8, .v false [.own 8 0 0])] [(8, some ⟨0, 0, false, false, false, false, [⟨.sh, 0, 0, .row 3 (List.map e_S_row out_o8_e0_5)⟩]⟩)] | (.inr r2) => p.1 = .ret ∧ fin Try.prog cfg 163 Try.f163 [.im 2 true [.sc (.int .i64 r_0.Width), .sc (.int .i64 r_0.Length)], .im 2 true [.sc (.int .i64 k_1.Board), .sc (.int .i64 k_1.Wide), .sc (.int .i64 k_1.Least), .sc (.int .i64 k_1.Stagger)], .im 2 false [.row 1 (List.map eI firsts_2)]] p.2 = some ([(false, [.ow 0 3 (List.map e_S_row r2.1)]), (false, [.im 0 (.sc (.bool r2.2))])], [])) hl (by kernel_rfl) ?_ ?_ ?_
    · intro o p hp e
      rcases o with out_o8_e0_5 | r2 <;> exact nomatch (hp.1.symm.trans e)
    · rintro ⟨t_22_l5, out_o8_l5⟩ o h
      unfold impl_floorRows_l5 at h
      dsimp only at h
      refine Go.seq ?_
      refine Go.r0 c163 rfl rfl (sq z163 (oBi rfl rfl rfl rfl) <| nl) ?_
      refine Unw.seq ?_
      refine Go.seq ?_
      by_cases hc12 : t_22_l5 < (firsts_2.length : Int)
      · rw [if_pos hc12] at h
        refine Go.condT rfl (iDec.2 hc12) ?_
        refine Go.skip ?_
        refine Unw.seq ?_
        refine Go.seq ?_
        refine Go.block ?_
        refine Go.seq ?_
        obtain ⟨x25, hx25, h⟩ := bs h
        refine Go.r0 c163 rfl rfl (sq z163 (oMv rfl rfl) <| sq z163 (oIAI rfl hx25 sF27 rfl rfl) <| sq z163 (oLd (cs := [.im 2 _]) rfl tF2 rfl rfl) <| sq z163 (oAsI rfl rfl) <| sq z163 (oAsI rfl rfl) <| nl) ?_
        refine Unw.seq ?_
        refine Go.seq ?_
        obtain ⟨x31, hx31, h⟩ := bs h
        refine Go.r0 c163 rfl rfl (sq z163 (oLd (cs := [.im 0 _, .im 0 _]) rfl tF99 rfl rfl) <| sq z163 (oLd (cs := [.im 0 _, .im 0 _, .im 0 _, .im 0 _]) rfl tF101 rfl rfl) <| sq z163 (oMv rfl rfl) <| sq z163 (oCr (xs := [.v true [.im 0 _, .im 0 _], .v true [.im 0 _, .im 0 _, .im 0 _, .im 0 _], .v false [.im 2 _]]) (vs := [(true, [.own 31 0 0, .own 31 0 1, .im 0 _]), (false, [.im 0 _])]) (v := .tup [(true, [.own 31 0 0, .own 31 0 1, .im 0 _]), (false, [.im 0 _])]) (c := ⟨.sh, 0, _⟩) (cs := [⟨.sh, 0, _⟩]) (L_impl_makeRow hx31) (.inl rfl) rfl kF232_99_101_2 rfl (ppC rfl (ppC rfl (ppC rfl pp0))) rfl rfl pb0 rfl rfl rfl) <| sq z163 (oMvT rfl rfl) <| sq z163 (oEx rfl rfl rfl) <| sq z163 (oEx rfl rfl rfl) <| sq z163 (oAl rfl tF255 (tkN (tkN (tkI tk0)))) <| sq z163 (oSt tF255 rfl rfl rfl (tkO rfl rfl (tkO rfl rfl (tkI tk0))) rfl rfl rfl) <| sq z163 (oAsI rfl rfl) <| nl) ?_
        refine Unw.seq ?_
        refine Go.seq ?_
        refine Go.seq ?_
        obtain ⟨t_50_m8, hm16, h⟩ := bs h
        refine Go.dr c163 rfl rfl rfl (st1 := mk [(3, .v false [.mp 3 0 0]), (4, .v false [.mp 4 0 0]), (8, .v false [.own 8 0 0]), (9, iv t_22_l5), (11, .v false [.mp 11 0 0]), (12, iv x31.2), (20, .v false [.im 2 (.row 1 (List.map eI firsts_2))]), (21, iv (firsts_2.length : Int)), (22, iv t_22_l5)] [(3, some ⟨0, 0, false, true, false, true, [⟨.imm, 0, 0, .sc (.int .i64 r_0.Width)⟩, ⟨.imm, 0, 0, .sc (.int .i64 r_0.Length)⟩]⟩), (4, some ⟨0, 0, false, true, false, true, [⟨.imm, 0, 0, .sc (.int .i64 k_1.Board)⟩, ⟨.imm, 0, 0, .sc (.int .i64 k_1.Wide)⟩, ⟨.imm, 0, 0, .sc (.int .i64 k_1.Least)⟩, ⟨.imm, 0, 0, .sc (.int .i64 k_1.Stagger)⟩]⟩), (8, some ⟨0, 0, false, false, false, false, [⟨.sh, 0, 0, .row 3 (List.map e_S_row out_o8_l5)⟩]⟩), (11, some ⟨0, 0, false, true, false, true, [⟨.sh, 0, 0, .row 1 (List.map eI x31.1.pieces)⟩, ⟨.sh, 0, 0, .row 1 (List.map eI x31.1.joints)⟩, ⟨.imm, 0, 0, .sc (.int .i64 x31.1.last)⟩]⟩)]) (by kernel_rfl) (mk [(3, .v false [.mp 3 0 0]), (4, .v false [.mp 4 0 0]), (8, .v false [.own 8 0 0]), (11, .v false [.mp 11 0 0]), (20, .v false [.im 2 (.row 1 (List.map eI firsts_2))]), (21, iv (firsts_2.length : Int)), (22, iv t_22_l5), (50, bv t_50_m8)] [(3, some ⟨0, 0, false, true, false, true, [⟨.imm, 0, 0, .sc (.int .i64 r_0.Width)⟩, ⟨.imm, 0, 0, .sc (.int .i64 r_0.Length)⟩]⟩), (4, some ⟨0, 0, false, true, false, true, [⟨.imm, 0, 0, .sc (.int .i64 k_1.Board)⟩, ⟨.imm, 0, 0, .sc (.int .i64 k_1.Wide)⟩, ⟨.imm, 0, 0, .sc (.int .i64 k_1.Least)⟩, ⟨.imm, 0, 0, .sc (.int .i64 k_1.Stagger)⟩]⟩), (8, some ⟨0, 0, false, false, false, false, [⟨.sh, 0, 0, .row 3 (List.map e_S_row out_o8_l5)⟩]⟩), (11, some ⟨0, 0, false, true, false, true, [⟨.sh, 0, 0, .row 1 (List.map eI x31.1.pieces)⟩, ⟨.sh, 0, 0, .row 1 (List.map eI x31.1.joints)⟩, ⟨.imm, 0, 0, .sc (.int .i64 x31.1.last)⟩]⟩)]) ?_ ?_
        · by_cases hc13 : x31.2 ≠ 0
          · rw [if_pos hc13] at hm16
            cases hm16
            exact sT rfl (dN z163 rfl (oMv rfl rfl)) <| sT rfl (dN z163 rfl (oBi rfl rfl rfl rfl)) <| sT rfl (dN z163 rfl (oMv rfl rfl)) <| sT rfl (dF rfl rfl rfl (iNe.2 hc13) rfl) <| sT rfl (dF rfl rfl rfl (iNe.2 hc13) rfl) <| sT rfl (dF rfl rfl rfl (iNe.2 hc13) rfl) <| sT rfl (dU rfl rfl rfl rfl) <| sT rfl (dU rfl rfl rfl rfl) <| sT rfl (dU rfl rfl rfl rfl) <| sT rfl (dU rfl rfl rfl rfl) <| sT rfl (dU rfl rfl rfl rfl) <| sT rfl (dU rfl rfl rfl rfl) <| sT rfl (dU rfl rfl rfl rfl) <| sS (dU rfl rfl rfl rfl) trivial (sT rfl (dU rfl rfl rfl rfl) <| sT rfl (dF rfl rfl rfl (iNe.2 hc13) rfl) <| sT rfl (dN z163 rfl (oPkT rfl rfl (iNe.2 hc13) rfl)) <| sD (by kernel_rfl))
          · rw [if_neg hc13] at hm16
            by_cases hc14 : t_22_l5 > 0
            · rw [if_pos hc14] at hm16
              obtain ⟨x43, hx43, hm16⟩ := bs hm16
              obtain ⟨x47, hx47, hm16⟩ := bs hm16
              cases hm16
              exact sT rfl (dN z163 rfl (oMv rfl rfl)) <| sT rfl (dN z163 rfl (oBi rfl rfl rfl rfl)) <| sT rfl (dN z163 rfl (oMv rfl rfl)) <| sT rfl (dT z163 rfl rfl rfl (byF iNe hc13) (oMv rfl rfl)) <| sT rfl (dT z163 rfl rfl rfl (byF iNe hc13) (oBi rfl rfl rfl rfl)) <| sT rfl (dT z163 rfl rfl rfl (byF iNe hc13) (oMv rfl rfl)) <| sT rfl (dT z163 rfl rfl rfl (iDec.2 hc14) (oMv rfl rfl)) <| sT rfl (dT z163 rfl rfl rfl (iDec.2 hc14) (oMv rfl rfl)) <| sT rfl (dT z163 rfl rfl rfl (iDec.2 hc14) (oBi rfl rfl rfl rfl)) <| sT rfl (dT z163 rfl rfl rfl (iDec.2 hc14) (oIAO rfl hx43 sF259 rfl rfl rfl rfl)) <| sT rfl (dT z163 rfl rfl rfl (iDec.2 hc14) (oLdE (cs := [.im 0 _, .im 0 _, .im 0 _]) rfl tF255 rfl rfl rfl (fun e => nomatch e) (rd_get hx43) rfl rfl)) <| sT rfl (dT z163 rfl rfl rfl (iDec.2 hc14) (oLd (cs := [.own 11 0 0, .own 11 0 1, .im 0 _]) rfl tF255 rfl rfl)) <| sT rfl (dT z163 rfl rfl rfl (iDec.2 hc14) (oLd (cs := [.im 0 _, .im 0 _, .im 0 _, .im 0 _]) rfl tF101 rfl rfl)) <| sS (dT z163 rfl rfl rfl (iDec.2 hc14) (oCa (xs := [.v true [.im 0 _, .im 0 _, .im 0 _], .v true [.own 11 0 0, .own 11 0 1, .im 0 _], .v true [.im 0 _, .im 0 _, .im 0 _, .im 0 _]]) (vs := [(false, [.im 0 _])]) (v := .v false [.im 0 _]) (L_impl_staggered hx47) (.inl rfl) rfl kF233_255_255_101 rfl (ppC rfl (ppC rfl (ppC rfl pp0))) rfl rfl pb0 rfl rfl rfl)) trivial (sT rfl (dT z163 rfl rfl rfl (iDec.2 hc14) (oUn rfl rfl rfl)) <| sT rfl (dT z163 rfl rfl rfl (byF iNe hc13) (oPkT rfl rfl (iDec.2 hc14) rfl)) <| sT rfl (dN z163 rfl (oPkF rfl rfl (byF iNe hc13) rfl)) <| sD (by kernel_rfl))
            · rw [if_neg hc14] at hm16
              cases hm16
              exact sT rfl (dN z163 rfl (oMv rfl rfl)) <| sT rfl (dN z163 rfl (oBi rfl rfl rfl rfl)) <| sT rfl (dN z163 rfl (oMv rfl rfl)) <| sT rfl (dT z163 rfl rfl rfl (byF iNe hc13) (oMv rfl rfl)) <| sT rfl (dT z163 rfl rfl rfl (byF iNe hc13) (oBi rfl rfl rfl rfl)) <| sT rfl (dT z163 rfl rfl rfl (byF iNe hc13) (oMv rfl rfl)) <| sT rfl (dF rfl rfl rfl (byF iDec hc14) rfl) <| sT rfl (dF rfl rfl rfl (byF iDec hc14) rfl) <| sT rfl (dF rfl rfl rfl (byF iDec hc14) rfl) <| sT rfl (dF rfl rfl rfl (byF iDec hc14) rfl) <| sT rfl (dF rfl rfl rfl (byF iDec hc14) rfl) <| sT rfl (dF rfl rfl rfl (byF iDec hc14) rfl) <| sT rfl (dF rfl rfl rfl (byF iDec hc14) rfl) <| sS (dF rfl rfl rfl (byF iDec hc14) rfl) trivial (sT rfl (dF rfl rfl rfl (byF iDec hc14) rfl) <| sT rfl (dT z163 rfl rfl rfl (byF iNe hc13) (oPkF rfl rfl (byF iDec hc14) rfl)) <| sT rfl (dN z163 rfl (oPkF rfl rfl (byF iNe hc13) rfl)) <| sD (by kernel_rfl))
        · refine Unw.seq ?_
          by_cases hc15 : t_50_m8 = true
          · rw [if_pos hc15] at h
            refine Go.condT rfl (Iff.rfl.2 hc15) ?_
            refine Go.seq ?_
            refine Go.r0 c163 rfl rfl (sq z163 (oAsN rfl rfl eF259) <| sq z163 (oAsI rfl rfl) <| nl) ?_
            refine Unw.seq ?_
            refine Go.ret (Unw.ret ?_)
            cases h
            exact ⟨rfl, (fin_of rfl rF163 rfl (by kernel_rfl))⟩
          · rw [if_neg hc15] at h
            refine Go.condF rfl (byF Iff.rfl hc15) ?_
            refine Go.skip ?_
            refine Unw.seq ?_
            obtain ⟨x54, hx54, h⟩ := bs h
            refine Go.r0 c163 rfl rfl (sq z163 (oMv rfl rfl) <| sq z163 (oLd (cs := [.own 11 0 0, .own 11 0 1, .im 0 _]) rfl tF255 rfl rfl) <| sq z163 (oBS (es := List.map e_S_row ([x31.1] : List S_row)) rfl sF259 rfl (ptC rfl (fxO rfl rfl (fxO rfl rfl (fxI fx0))) rfl pt0) (flat1 rfl)) <| sq z163 (oApO (en := e_S_row) (M := ([x31.1] : List S_row)) rfl hx54 rfl sF259 rfl rfl uF259 (.inl ⟨_, rfl⟩) rfl rfl rfl rfl (el_own rfl rfl) (flat1 rfl)) <| sq z163 (oAsO rfl rfl rfl rfl rfl) <| nl) ?_
            refine Unw.blk ?_
            refine Unw.seq ?_
            refine Go.r0 c163 rfl rfl (sq z163 (oBi rfl rfl rfl rfl) <| sq z163 (oMv rfl rfl) <| nl) ?_
            refine Unw.nil ?_
            cases h
            exact ⟨rfl, (by kernel_rfl)⟩
      · rw [if_neg hc12] at h
        refine Go.condF rfl (byF iDec hc12) ?_
        refine Go.exit ?_
        refine Unw.seqx ?_
        refine Unw.nil ?_
        cases h
        exact ⟨rfl, (by kernel_rfl)⟩
    · rintro ⟨e, st⟩ hp
      rcases o with out_o8_e0_5 | r2
      · dsimp only at h
        obtain ⟨he, hst⟩ := hp
        obtain rfl : e = .exit 0 := he
        refine Unw.blkx ?_
        refine Unw.seq ?_
        refine Go.seq ?_
        refine Go.r1 c163 rfl rfl hst (sq z163 (oMv rfl rfl) <| sq z163 (oAsO rfl rfl rfl rfl rfl) <| sq z163 (oAsI rfl rfl) <| nl) ?_
        refine Unw.seq ?_
        refine Go.ret (Unw.ret ?_)
        cases h
        exact Fin_ret (fin_of rfl rF163 rfl (by kernel_rfl))
      · dsimp only at h
        obtain ⟨he, hfin⟩ := hp
        obtain rfl : e = .ret := he
        cases h
        exact Unw.ret (Fin_ret hfin)
theorem L_impl_IsFloor {r_0 : S_Room} {k_1 : S_Stock} {firsts_2 : (List Int)} {r : Bool} (h : impl_IsFloor r_0 k_1 firsts_2 = some r) : FL Try.prog cfg 71 [.im 2 true [.sc (.int .i64 r_0.Width), .sc (.int .i64 r_0.Length)], .im 2 true [.sc (.int .i64 k_1.Board), .sc (.int .i64 k_1.Wide), .sc (.int .i64 k_1.Least), .sc (.int .i64 k_1.Stagger)], .im 2 false [.row 1 (List.map eI firsts_2)]] = some ([(false, [.im 0 (.sc (.bool r))])], []) := by
  unfold impl_IsFloor at h
  refine FL_goS (A := [(0, .v true [.im 2 (.sc (.int .i64 r_0.Width)), .im 2 (.sc (.int .i64 r_0.Length))]), (1, .v true [.im 2 (.sc (.int .i64 k_1.Board)), .im 2 (.sc (.int .i64 k_1.Wide)), .im 2 (.sc (.int .i64 k_1.Least)), .im 2 (.sc (.int .i64 k_1.Stagger))]), (2, .v false [.im 2 (.row 1 (List.map eI firsts_2))])]) (B := [(0, none), (1, none), (2, none)]) (nt := 21) rfl rfl Try.func71 rfl rfl rfl rfl ?_
  refine Go.seq ?_
  refine Go.r0 c71 rfl rfl (sq z71 (oBx rfl tF99 rfl (tkI (tkI tk0))) <| sq z71 (oBx rfl tF101 rfl (tkI (tkI (tkI (tkI tk0))))) <| sq z71 (oAsI rfl rfl) <| nl) ?_
  refine Unw.seq ?_
  refine Go.seq ?_
  refine Go.seq ?_
  obtain ⟨x11, hx11, h⟩ := bs h
  refine Go.r0 c71 rfl rfl (sq z71 (oLd (cs := [.im 0 _, .im 0 _]) rfl tF99 rfl rfl) <| sq z71 (oLd (cs := [.im 0 _, .im 0 _, .im 0 _, .im 0 _]) rfl tF101 rfl rfl) <| sq z71 (oCa (xs := [.v true [.im 0 _, .im 0 _], .v true [.im 0 _, .im 0 _, .im 0 _, .im 0 _]]) (vs := [(false, [.im 0 _])]) (v := .v false [.im 0 _]) (L_impl_roomCode hx11) (.inl rfl) rfl kF162_99_101 rfl (ppC rfl (ppC rfl pp0)) rfl rfl pb0 rfl rfl rfl) <| sq z71 (oBi rfl rfl rfl rfl) <| nl) ?_
  refine Unw.seq ?_
  by_cases hc1 : x11 ≠ 0
  · rw [if_pos hc1] at h
    refine Go.condT rfl (iNe.2 hc1) ?_
    refine Go.seq ?_
    refine Go.r0 c71 rfl rfl (sq z71 (oAsI rfl rfl) <| nl) ?_
    refine Unw.seq ?_
    refine Go.ret (Unw.ret ?_)
    cases h
    exact Fin_ret (fin_of rfl rF71 rfl (by kernel_rfl))
  · rw [if_neg hc1] at h
    refine Go.condF rfl (byF iNe hc1) ?_
    refine Go.skip ?_
    refine Unw.seq ?_
    refine Go.seq ?_
    obtain ⟨x17, hx17, h⟩ := bs h
    refine Go.r0 c71 rfl rfl (sq z71 (oLd (cs := [.im 0 _, .im 0 _]) rfl tF99 rfl rfl) <| sq z71 (oLd (cs := [.im 0 _, .im 0 _, .im 0 _, .im 0 _]) rfl tF101 rfl rfl) <| sq z71 (oMv rfl rfl) <| sq z71 (oCr (xs := [.v true [.im 0 _, .im 0 _], .v true [.im 0 _, .im 0 _, .im 0 _, .im 0 _], .v false [.im 2 _]]) (vs := [(false, [.own 17 0 0]), (false, [.im 0 _])]) (v := .tup [(false, [.own 17 0 0]), (false, [.im 0 _])]) (c := ⟨.sh, 0, _⟩) (cs := []) (L_impl_floorRows hx17) (.inl rfl) rfl kF163_99_101_27 rfl (ppC rfl (ppC rfl (ppC rfl pp0))) rfl rfl pb0 rfl rfl rfl) <| sq z71 (oMvT rfl rfl) <| sq z71 (oEx rfl rfl rfl) <| sq z71 (oEx rfl rfl rfl) <| sq z71 (oAsO rfl rfl rfl rfl rfl) <| sq z71 (oAsI rfl rfl) <| nl) ?_
    refine Unw.seq ?_
    refine Go.seq ?_
    refine Go.r0 c71 rfl rfl (sq z71 (oMv rfl rfl) <| sq z71 (oAsI rfl rfl) <| nl) ?_
    refine Unw.seq ?_
    refine Go.ret (Unw.ret ?_)
    cases h
    exact Fin_ret (fin_of rfl rF71 rfl (by kernel_rfl))
theorem L_impl_BoardsFor {r_0 : S_Room} {k_1 : S_Stock} {firsts_2 : (List Int)} {r : (Int × Int)} (h : impl_BoardsFor r_0 k_1 firsts_2 = some r) : FL Try.prog cfg 72 [.im 2 true [.sc (.int .i64 r_0.Width), .sc (.int .i64 r_0.Length)], .im 2 true [.sc (.int .i64 k_1.Board), .sc (.int .i64 k_1.Wide), .sc (.int .i64 k_1.Least), .sc (.int .i64 k_1.Stagger)], .im 2 false [.row 1 (List.map eI firsts_2)]] = some ([(false, [.im 0 (.sc (.int .i64 r.1))]), (false, [.im 0 (.sc (.int .i64 r.2))])], []) := by
  unfold impl_BoardsFor at h
  refine FL_goS (A := [(0, .v true [.im 2 (.sc (.int .i64 r_0.Width)), .im 2 (.sc (.int .i64 r_0.Length))]), (1, .v true [.im 2 (.sc (.int .i64 k_1.Board)), .im 2 (.sc (.int .i64 k_1.Wide)), .im 2 (.sc (.int .i64 k_1.Least)), .im 2 (.sc (.int .i64 k_1.Stagger))]), (2, .v false [.im 2 (.row 1 (List.map eI firsts_2))])]) (B := [(0, none), (1, none), (2, none)]) (nt := 47) rfl rfl Try.func72 rfl rfl rfl rfl ?_
  refine Go.seq ?_
  refine Go.r0 c72 rfl rfl (sqn z72 rfl (oBx rfl tF99 rfl (tkI (tkI tk0))) <| sqn z72 rfl (oBx rfl tF101 rfl (tkI (tkI (tkI (tkI tk0))))) <| sqn z72 rfl (oAsI rfl rfl) <| sqn z72 rfl (oAsI rfl rfl) <| nl) ?_
  refine Unw.seq ?_
  refine Go.seq ?_
  refine Go.seq ?_
  obtain ⟨x17, hx17, h⟩ := bs h
  refine Go.r0 c72 rfl rfl (sqn z72 rfl (oLd (cs := [.im 0 _, .im 0 _]) rfl tF99 rfl rfl) <| sqn z72 rfl (oLd (cs := [.im 0 _, .im 0 _, .im 0 _, .im 0 _]) rfl tF101 rfl rfl) <| sqn z72 rfl (oCa (xs := [.v true [.im 0 _, .im 0 _], .v true [.im 0 _, .im 0 _, .im 0 _, .im 0 _]]) (vs := [(false, [.im 0 _])]) (v := .v false [.im 0 _]) (L_impl_roomCode hx17) (.inl rfl) rfl kF162_99_101 rfl (ppC rfl (ppC rfl pp0)) rfl rfl pb0 rfl rfl rfl) <| sqn z72 rfl (oAsI rfl rfl) <| nl) ?_
  refine Unw.seq ?_
  refine Go.seq ?_
  refine Go.r0 c72 rfl rfl (sqn z72 rfl (oMv rfl rfl) <| sqn z72 rfl (oBi rfl rfl rfl rfl) <| nl) ?_
  refine Unw.seq ?_
  by_cases hc1 : x17 ≠ 0
  · rw [if_pos hc1] at h
    refine Go.condT rfl (iNe.2 hc1) ?_
    refine Go.seq ?_
    refine Go.r0 c72 rfl rfl (sqn z72 rfl (oMv rfl rfl) <| sqn z72 rfl (oAsI rfl rfl) <| sqn z72 rfl (oAsI rfl rfl) <| nl) ?_
    refine Unw.seq ?_
    refine Go.ret (Unw.ret ?_)
    cases h
    exact Fin_ret (fin_of rfl rF72 rfl (by kernel_rfl))
  · rw [if_neg hc1] at h
    refine Go.condF rfl (byF iNe hc1) ?_
    refine Go.skip ?_
    refine Unw.seq ?_
    refine Go.seq ?_
    obtain ⟨x25, hx25, h⟩ := bs h
    refine Go.r0 c72 rfl rfl (sqn z72 rfl (oLd (cs := [.im 0 _, .im 0 _]) rfl tF99 rfl rfl) <| sqn z72 rfl (oLd (cs := [.im 0 _, .im 0 _, .im 0 _, .im 0 _]) rfl tF101 rfl rfl) <| sqn z72 rfl (oMv rfl rfl) <| sqn z72 rfl (oCr (xs := [.v true [.im 0 _, .im 0 _], .v true [.im 0 _, .im 0 _, .im 0 _, .im 0 _], .v false [.im 2 _]]) (vs := [(false, [.own 25 0 0]), (false, [.im 0 _])]) (v := .tup [(false, [.own 25 0 0]), (false, [.im 0 _])]) (c := ⟨.sh, 0, _⟩) (cs := []) (L_impl_floorRows hx25) (.inl rfl) rfl kF163_99_101_27 rfl (ppC rfl (ppC rfl (ppC rfl pp0))) rfl rfl pb0 rfl rfl rfl) <| sqn z72 rfl (oMvT rfl rfl) <| sqn z72 rfl (oEx rfl rfl rfl) <| sqn z72 rfl (oEx rfl rfl rfl) <| sqn z72 rfl (oAsO rfl rfl rfl rfl rfl) <| sqn z72 rfl (oAsI rfl rfl) <| nl) ?_
    refine Unw.seq ?_
    refine Go.seq ?_
    refine Go.seq ?_
    refine Go.r0 c72 rfl rfl (sqn z72 rfl (oMv rfl rfl) <| sqn z72 rfl (oUn rfl rfl rfl) <| nl) ?_
    refine Unw.seq ?_
    by_cases hc2 : x25.2 = true
    · rw [if_pos hc2] at h
      refine Go.condF rfl (nF (Iff.rfl.2 hc2)) ?_
      refine Go.skip ?_
      refine Unw.seq ?_
      refine Go.seq ?_
      refine Go.r0 c72 rfl rfl (sqf z72 rfl (oBS (es := List.map eI ([0] : List Int)) rfl sF27 rfl (ptC rfl (fxI fx0) rfl pt0) (flat0 rfl fun _ => rfl)) (frzO rfl rfl rfl) <| sqf z72 rfl (oBu (cs := [.im 0 _, .nil, .im 0 _]) rfl bF255 rfl) (frzV (rs' := [.im 0 _, .im 0 _, .im 0 _]) rfl rfl) <| sqn z72 rfl (oAl rfl tF255 (tkN (tkN (tkI tk0)))) <| sqn z72 rfl (oAsI rfl rfl) <| sq0 (oSt tF255 rfl rfl rfl (tkI (tkI (tkI tk0))) rfl rfl rfl) <| nl) ?_
      refine Unw.seq ?_
      refine Go.seq ?_
      refine Go.seq ?_
      refine Go.r1 c72 rfl rfl (st1 := mk [(4, .v false [.mp 4 0 0]), (9, .v false [.own 9 0 0]), (11, iv 0), (12, .v false [.mp 12 0 0])] [(4, some ⟨0, 0, false, true, false, true, [⟨.imm, 0, 0, .sc (.int .i64 k_1.Board)⟩, ⟨.imm, 0, 0, .sc (.int .i64 k_1.Wide)⟩, ⟨.imm, 0, 0, .sc (.int .i64 k_1.Least)⟩, ⟨.imm, 0, 0, .sc (.int .i64 k_1.Stagger)⟩]⟩), (9, some ⟨0, 0, false, false, false, false, [⟨.sh, 0, 0, .row 3 (List.map e_S_row x25.1)⟩]⟩), (12, some ⟨0, 0, false, true, false, true, [⟨.imm, 0, 0, .row 1 (List.map eI ([0] : List Int))⟩, ⟨.imm, 0, 0, .row 1 (List.map eI ([] : List Int))⟩, ⟨.imm, 0, 0, .sc (.int .i64 0)⟩]⟩)]) (by kernel_rfl) (sqn z72 rfl (oMv rfl rfl) <| sqn z72 rfl (oLnO rfl rfl uF259 rfl rfl rfl (fun e => nomatch e)) <| sqn z72 rfl (oMv rfl rfl) <| nl) ?_
      refine Unw.seq ?_
      refine Go.block ?_
      obtain ⟨o, hl, h⟩ := bs h
      refine Go.lp c72 rfl _ (fun (s : (Int × Int × (List Int) × (List Int) × Int)) => match s with | (sum_11_l9, t_34_l9, before_o12_0_l9, before_o12_1_l9, before_o12_2_l9) => mk [(4, .v false [.mp 4 0 0]), (11, iv sum_11_l9), (12, .v false [.mp 12 0 0]), (32, .v false [.own 9 0 0]), (33, iv (x25.1.length : Int)), (34, iv t_34_l9)] [(4, some ⟨0, 0, false, true, false, true, [⟨.imm, 0, 0, .sc (.int .i64 k_1.Board)⟩, ⟨.imm, 0, 0, .sc (.int .i64 k_1.Wide)⟩, ⟨.imm, 0, 0, .sc (.int .i64 k_1.Least)⟩, ⟨.imm, 0, 0, .sc (.int .i64 k_1.Stagger)⟩]⟩), (9, some ⟨0, 0, false, false, false, false, [⟨.sh, 0, 0, .row 3 (List.map e_S_row x25.1)⟩]⟩), (12, some ⟨0, 0, false, true, false, true, [⟨.imm, 0, 0, .row 1 (List.map eI before_o12_0_l9)⟩, ⟨.imm, 0, 0, .row 1 (List.map eI before_o12_1_l9)⟩, ⟨.imm, 0, 0, .sc (.int .i64 before_o12_2_l9)⟩]⟩)]) (fun (sum_11_e0_9 : Int) (p : Ex × St) => p.1 = .exit 0 ∧ p.2.norm ([11], []) = mk [(11, iv sum_11_e0_9)] []) hl (by kernel_rfl) ?_ ?_ ?_
      · intro o p hp e
        exact nomatch (hp.1.symm.trans e)
      · rintro ⟨sum_11_l9, t_34_l9, before_o12_0_l9, before_o12_1_l9, before_o12_2_l9⟩ o h
        unfold impl_BoardsFor_l9 at h
        dsimp only at h
        refine Go.seq ?_
        refine Go.r0 c72 rfl rfl (sqn z72 rfl (oBi rfl rfl rfl rfl) <| nl) ?_
        refine Unw.seq ?_
        refine Go.seq ?_
        by_cases hc5 : t_34_l9 < (x25.1.length : Int)
        · rw [if_pos hc5] at h
          refine Go.condT rfl (iDec.2 hc5) ?_
          refine Go.skip ?_
          refine Unw.seq ?_
          refine Go.seq ?_
          refine Go.block ?_
          refine Go.seq ?_
          obtain ⟨x36, hx36, h⟩ := bs h
          refine Go.r0 c72 rfl rfl (sqn z72 rfl (oIAO rfl hx36 sF259 rfl rfl rfl rfl) <| sqn z72 rfl (oLdE (cs := [.im 0 _, .im 0 _, .im 0 _]) rfl tF255 rfl rfl rfl (fun e => nomatch e) (rd_get hx36) rfl rfl) <| sqn z72 rfl (oAl rfl tF255 (tkN (tkN (tkI tk0)))) <| sq0 (oSt tF255 rfl rfl rfl (tkI (tkI (tkI tk0))) rfl rfl rfl) <| nl) ?_
          refine Unw.seq ?_
          refine Go.seq ?_
          obtain ⟨x42, hx42, h⟩ := bs h
          refine Go.r1 c72 rfl rfl (st1 := mk [(4, .v false [.mp 4 0 0]), (11, iv sum_11_l9), (12, .v false [.mp 12 0 0]), (14, .v false [.mp 14 0 0]), (32, .v false [.own 9 0 0]), (33, iv (x25.1.length : Int)), (34, iv t_34_l9)] [(4, some ⟨0, 0, false, true, false, true, [⟨.imm, 0, 0, .sc (.int .i64 k_1.Board)⟩, ⟨.imm, 0, 0, .sc (.int .i64 k_1.Wide)⟩, ⟨.imm, 0, 0, .sc (.int .i64 k_1.Least)⟩, ⟨.imm, 0, 0, .sc (.int .i64 k_1.Stagger)⟩]⟩), (9, some ⟨0, 0, false, false, false, false, [⟨.sh, 0, 0, .row 3 (List.map e_S_row x25.1)⟩]⟩), (12, some ⟨0, 0, false, true, false, true, [⟨.imm, 0, 0, .row 1 (List.map eI before_o12_0_l9)⟩, ⟨.imm, 0, 0, .row 1 (List.map eI before_o12_1_l9)⟩, ⟨.imm, 0, 0, .sc (.int .i64 before_o12_2_l9)⟩]⟩), (14, some ⟨0, 0, false, true, false, true, [⟨.imm, 0, 0, .row 1 (List.map eI x36.pieces)⟩, ⟨.imm, 0, 0, .row 1 (List.map eI x36.joints)⟩, ⟨.imm, 0, 0, .sc (.int .i64 x36.last)⟩]⟩)]) (by kernel_rfl) (sqn z72 rfl (oMv rfl rfl) <| sqn z72 rfl (oLd (cs := [.im 0 _, .im 0 _, .im 0 _]) rfl tF255 rfl rfl) <| sqn z72 rfl (oLd (cs := [.im 0 _, .im 0 _, .im 0 _]) rfl tF255 rfl rfl) <| sqn z72 rfl (oLd (cs := [.im 0 _, .im 0 _, .im 0 _, .im 0 _]) rfl tF101 rfl rfl) <| sqn z72 rfl (oCa (xs := [.v true [.im 0 _, .im 0 _, .im 0 _], .v true [.im 0 _, .im 0 _, .im 0 _], .v true [.im 0 _, .im 0 _, .im 0 _, .im 0 _]]) (vs := [(false, [.im 0 _])]) (v := .v false [.im 0 _]) (L_impl_boards hx42) (.inl rfl) rfl kF164_255_255_101 rfl (ppC rfl (ppC rfl (ppC rfl pp0))) rfl rfl pb0 rfl rfl rfl) <| sqn z72 rfl (oBi rfl rfl rfl rfl) <| sqn z72 rfl (oAsI rfl rfl) <| nl) ?_
          refine Unw.seq ?_
          refine Go.r0 c72 rfl rfl (sqn z72 rfl (oLd (cs := [.im 0 _, .im 0 _, .im 0 _]) rfl tF255 rfl rfl) <| sq0 (oSt tF255 rfl rfl rfl (tkI (tkI (tkI tk0))) rfl rfl rfl) <| nl) ?_
          refine Unw.blk ?_
          refine Unw.seq ?_
          refine Go.r1 c72 rfl rfl (st1 := mk [(4, .v false [.mp 4 0 0]), (11, iv (w64 (sum_11_l9 + x42))), (12, .v false [.mp 12 0 0]), (32, .v false [.own 9 0 0]), (33, iv (x25.1.length : Int)), (34, iv t_34_l9)] [(4, some ⟨0, 0, false, true, false, true, [⟨.imm, 0, 0, .sc (.int .i64 k_1.Board)⟩, ⟨.imm, 0, 0, .sc (.int .i64 k_1.Wide)⟩, ⟨.imm, 0, 0, .sc (.int .i64 k_1.Least)⟩, ⟨.imm, 0, 0, .sc (.int .i64 k_1.Stagger)⟩]⟩), (9, some ⟨0, 0, false, false, false, false, [⟨.sh, 0, 0, .row 3 (List.map e_S_row x25.1)⟩]⟩), (12, some ⟨0, 0, false, true, false, true, [⟨.imm, 0, 0, .row 1 (List.map eI x36.pieces)⟩, ⟨.imm, 0, 0, .row 1 (List.map eI x36.joints)⟩, ⟨.imm, 0, 0, .sc (.int .i64 x36.last)⟩]⟩)]) (by kernel_rfl) (sqn z72 rfl (oBi rfl rfl rfl rfl) <| sqn z72 rfl (oMv rfl rfl) <| nl) ?_
          refine Unw.nil ?_
          cases h
          exact ⟨rfl, (by kernel_rfl)⟩
        · rw [if_neg hc5] at h
          refine Go.condF rfl (byF iDec hc5) ?_
          refine Go.exit ?_
          refine Unw.seqx ?_
          refine Unw.nil ?_
          cases h
          exact ⟨rfl, (by kernel_rfl)⟩
      · rintro ⟨e, st⟩ hp
        obtain ⟨sum_11_e0_9, rfl⟩ : ∃ y, y = o := ⟨o, rfl⟩
        obtain ⟨he, hst⟩ := hp
        obtain rfl : e = .exit 0 := he
        refine Unw.blkx ?_
        refine Unw.seq ?_
        refine Go.seq ?_
        refine Go.r1 c72 rfl rfl hst (sqn z72 rfl (oMv rfl rfl) <| sqn z72 rfl (oAsI rfl rfl) <| sqn z72 rfl (oAsI rfl rfl) <| nl) ?_
        refine Unw.seq ?_
        refine Go.ret (Unw.ret ?_)
        cases h
        exact Fin_ret (fin_of rfl rF72 rfl (by kernel_rfl))
    · rw [if_neg hc2] at h
      refine Go.condT rfl (nT (byF Iff.rfl hc2)) ?_
      refine Go.seq ?_
      refine Go.r0 c72 rfl rfl (sqn z72 rfl (oAsI rfl rfl) <| sqn z72 rfl (oAsI rfl rfl) <| nl) ?_
      refine Unw.seq ?_
      refine Go.ret (Unw.ret ?_)
      cases h
      exact Fin_ret (fin_of rfl rF72 rfl (by kernel_rfl))
theorem L_impl_floorDiv {a_0 : Int} {b_1 : Int} {r : Int} (h : impl_floorDiv a_0 b_1 = some r) : FL Try.prog cfg 165 [.im 2 false [.sc (.int .i64 a_0)], .im 2 false [.sc (.int .i64 b_1)]] = some ([(false, [.im 0 (.sc (.int .i64 r))])], []) := by
  unfold impl_floorDiv at h
  refine FL_goS (A := [(0, .v false [.im 2 (.sc (.int .i64 a_0))]), (1, .v false [.im 2 (.sc (.int .i64 b_1))])]) (B := [(0, none), (1, none)]) (nt := 16) rfl rfl Try.func165 rfl rfl rfl rfl ?_
  refine Go.seq ?_
  refine Go.r0 c165 rfl rfl (sq z165 (oAsI rfl rfl) <| nl) ?_
  refine Unw.seq ?_
  refine Go.seq ?_
  obtain ⟨x8, hx8, h⟩ := bs h
  refine Go.r0 c165 rfl rfl (sq z165 (oMv rfl rfl) <| sq z165 (oMv rfl rfl) <| sq z165 (oQuo rfl hx8 rfl rfl) <| sq z165 (oAsI rfl rfl) <| nl) ?_
  refine Unw.seq ?_
  refine Go.seq ?_
  refine Go.seq ?_
  obtain ⟨x11, hx11, h⟩ := bs h
  refine Go.r0 c165 rfl rfl (sq z165 (oMv rfl rfl) <| sq z165 (oMv rfl rfl) <| sq z165 (oRem rfl hx11 rfl rfl) <| sq z165 (oBi rfl rfl rfl rfl) <| nl) ?_
  refine Unw.seq ?_
  refine Go.join (fun st => ∃ out_5_r4, impl_floorDiv_k4 out_5_r4 = some r ∧ st.norm ([5], []) = mk [(5, iv out_5_r4)] []) ?_ ?_
  · rintro st ⟨out_5_r4, h, hst⟩
    unfold impl_floorDiv_k4 at h
    refine Unw.seq ?_
    refine Go.seq ?_
    refine Go.r1 c165 rfl rfl hst (sq z165 (oMv rfl rfl) <| sq z165 (oAsI rfl rfl) <| nl) ?_
    refine Unw.seq ?_
    refine Go.ret (Unw.ret ?_)
    cases h
    exact Fin_ret (fin_of rfl rF165 rfl (by kernel_rfl))
  · intro K2
    by_cases hc3 : x11 < 0
    · rw [if_pos hc3] at h
      refine Go.condT rfl (iDec.2 hc3) ?_
      refine Go.r0 c165 rfl rfl (sq z165 (oMv rfl rfl) <| sq z165 (oBi rfl rfl rfl rfl) <| sq z165 (oAsI rfl rfl) <| nl) ?_
      exact K2 _ ⟨(w64 (x8 - 1)), h, (by kernel_rfl)⟩
    · rw [if_neg hc3] at h
      refine Go.condF rfl (byF iDec hc3) ?_
      refine Go.skip ?_
      exact K2 _ ⟨x8, h, (by kernel_rfl)⟩
theorem L_impl_WasteShare {r_0 : S_Room} {k_1 : S_Stock} {firsts_2 : (List Int)} {r : (Int × Int)} (h : impl_WasteShare r_0 k_1 firsts_2 = some r) : FL Try.prog cfg 73 [.im 2 true [.sc (.int .i64 r_0.Width), .sc (.int .i64 r_0.Length)], .im 2 true [.sc (.int .i64 k_1.Board), .sc (.int .i64 k_1.Wide), .sc (.int .i64 k_1.Least), .sc (.int .i64 k_1.Stagger)], .im 2 false [.row 1 (List.map eI firsts_2)]] = some ([(false, [.im 0 (.sc (.int .i64 r.1))]), (false, [.im 0 (.sc (.int .i64 r.2))])], []) := by
  unfold impl_WasteShare at h
  refine FL_goS (A := [(0, .v true [.im 2 (.sc (.int .i64 r_0.Width)), .im 2 (.sc (.int .i64 r_0.Length))]), (1, .v true [.im 2 (.sc (.int .i64 k_1.Board)), .im 2 (.sc (.int .i64 k_1.Wide)), .im 2 (.sc (.int .i64 k_1.Least)), .im 2 (.sc (.int .i64 k_1.Stagger))]), (2, .v false [.im 2 (.row 1 (List.map eI firsts_2))])]) (B := [(0, none), (1, none), (2, none)]) (nt := 38) rfl rfl Try.func73 rfl rfl rfl rfl ?_
  refine Go.seq ?_
  refine Go.r0 c73 rfl rfl (sq z73 (oBx rfl tF99 rfl (tkI (tkI tk0))) <| sq z73 (oBx rfl tF101 rfl (tkI (tkI (tkI (tkI tk0))))) <| sq z73 (oAsI rfl rfl) <| sq z73 (oAsI rfl rfl) <| nl) ?_
  refine Unw.seq ?_
  refine Go.seq ?_
  obtain ⟨x15, hx15, h⟩ := bs h
  refine Go.r0 c73 rfl rfl (sq z73 (oLd (cs := [.im 0 _, .im 0 _]) rfl tF99 rfl rfl) <| sq z73 (oLd (cs := [.im 0 _, .im 0 _, .im 0 _, .im 0 _]) rfl tF101 rfl rfl) <| sq z73 (oMv rfl rfl) <| sq z73 (oCa (xs := [.v true [.im 0 _, .im 0 _], .v true [.im 0 _, .im 0 _, .im 0 _, .im 0 _], .v false [.im 2 _]]) (vs := [(false, [.im 0 _]), (false, [.im 0 _])]) (v := .tup [(false, [.im 0 _]), (false, [.im 0 _])]) (L_impl_BoardsFor hx15) (.inl rfl) rfl kF72_99_101_27 rfl (ppC rfl (ppC rfl (ppC rfl pp0))) rfl rfl pb0 rfl rfl rfl) <| sq z73 (oMvT rfl rfl) <| sq z73 (oEx rfl rfl rfl) <| sq z73 (oEx rfl rfl rfl) <| sq z73 (oAsI rfl rfl) <| sq z73 (oAsI rfl rfl) <| nl) ?_
  refine Unw.seq ?_
  refine Go.seq ?_
  refine Go.seq ?_
  refine Go.r0 c73 rfl rfl (sq z73 (oMv rfl rfl) <| sq z73 (oBi rfl rfl rfl rfl) <| nl) ?_
  refine Unw.seq ?_
  by_cases hc1 : x15.2 ≠ 0
  · rw [if_pos hc1] at h
    refine Go.condT rfl (iNe.2 hc1) ?_
    refine Go.seq ?_
    refine Go.r0 c73 rfl rfl (sq z73 (oMv rfl rfl) <| sq z73 (oAsI rfl rfl) <| sq z73 (oAsI rfl rfl) <| nl) ?_
    refine Unw.seq ?_
    refine Go.ret (Unw.ret ?_)
    cases h
    exact Fin_ret (fin_of rfl rF73 rfl (by kernel_rfl))
  · rw [if_neg hc1] at h
    refine Go.condF rfl (byF iNe hc1) ?_
    refine Go.skip ?_
    refine Unw.seq ?_
    refine Go.seq ?_
    refine Go.r0 c73 rfl rfl (sq z73 (oMv rfl rfl) <| sq z73 (oFA (r' := .mp 4 0 0) rfl fF101_0 rfl rfl) <| sq z73 (oLd (cs := [.im 0 _]) rfl tF2 rfl rfl) <| sq z73 (oBi rfl rfl rfl rfl) <| sq z73 (oFA (r' := .mp 4 0 1) rfl fF101_1 rfl rfl) <| sq z73 (oLd (cs := [.im 0 _]) rfl tF2 rfl rfl) <| sq z73 (oBi rfl rfl rfl rfl) <| sq z73 (oAsI rfl rfl) <| nl) ?_
    refine Unw.seq ?_
    refine Go.seq ?_
    obtain ⟨x37, hx37, h⟩ := bs h
    refine Go.r0 c73 rfl rfl (sq z73 (oMv rfl rfl) <| sq z73 (oFA (r' := .mp 3 0 0) rfl fF99_0 rfl rfl) <| sq z73 (oLd (cs := [.im 0 _]) rfl tF2 rfl rfl) <| sq z73 (oFA (r' := .mp 3 0 1) rfl fF99_1 rfl rfl) <| sq z73 (oLd (cs := [.im 0 _]) rfl tF2 rfl rfl) <| sq z73 (oBi rfl rfl rfl rfl) <| sq z73 (oBi rfl rfl rfl rfl) <| sq z73 (oBi rfl rfl rfl rfl) <| sq z73 (oMv rfl rfl) <| sq z73 (oCa (xs := [.v false [.im 0 _], .v false [.im 0 _]]) (vs := [(false, [.im 0 _])]) (v := .v false [.im 0 _]) (L_impl_floorDiv hx37) (.inl rfl) rfl kF165_2_2 rfl (ppC rfl (ppC rfl pp0)) rfl rfl pb0 rfl rfl rfl) <| sq z73 (oAsI rfl rfl) <| sq z73 (oAsI rfl rfl) <| nl) ?_
    refine Unw.seq ?_
    refine Go.ret (Unw.ret ?_)
    cases h
    exact Fin_ret (fin_of rfl rF73 rfl (by kernel_rfl))
theorem L_spec_l00In {n_0 : Int} {low_1 : Int} {high_2 : Int} {r : Bool} (h : spec_l00In n_0 low_1 high_2 = some r) : FL Try.prog cfg 102 [.im 2 false [.sc (.int .i64 n_0)], .im 2 false [.sc (.int .i64 low_1)], .im 2 false [.sc (.int .i64 high_2)]] = some ([(false, [.im 0 (.sc (.bool r))])], []) := by
  unfold spec_l00In at h
  refine FL_goS (A := [(0, .v false [.im 2 (.sc (.int .i64 n_0))]), (1, .v false [.im 2 (.sc (.int .i64 low_1))]), (2, .v false [.im 2 (.sc (.int .i64 high_2))])]) (B := [(0, none), (1, none), (2, none)]) (nt := 15) rfl rfl Try.func102 rfl rfl rfl rfl ?_
  refine Go.seq ?_
  refine Go.r0 c102 rfl rfl (sq z102 (oAsI rfl rfl) <| nl) ?_
  refine Unw.seq ?_
  refine Go.seq ?_
  refine Go.rX c102 rfl rfl rfl (mk [(6, bv ((decide (n_0 ≥ low_1)) && (decide (n_0 ≤ high_2))))] []) ?_ ?_
  · by_cases hc1 : n_0 ≥ low_1
    · exact ⟨_, sq z102 (oMv rfl rfl) <| sq z102 (oMv rfl rfl) <| sq z102 (oBi rfl rfl rfl rfl) <| sq z102 (oMv rfl rfl) <| sgT z102 rfl rfl (iDec.2 hc1) (oMv rfl rfl) <| sgT z102 rfl rfl (iDec.2 hc1) (oMv rfl rfl) <| sgT z102 rfl rfl (iDec.2 hc1) (oBi rfl rfl rfl rfl) <| sq z102 (oPkT rfl rfl (iDec.2 hc1) rfl) <| sq z102 (oAsI rfl rfl) <| nl, (Eq.trans (b := (fun t_6_m1 : Bool => mk [(6, bv t_6_m1)] []) (decide (n_0 ≤ high_2))) (by kernel_rfl) (congrArg (fun t_6_m1 : Bool => mk [(6, bv t_6_m1)] []) (by first | rfl | (simp [(iDec.2 hc1)]; done) | (simp [(iDec.2 hc1)]; omega))))⟩
    · exact ⟨_, sq z102 (oMv rfl rfl) <| sq z102 (oMv rfl rfl) <| sq z102 (oBi rfl rfl rfl rfl) <| sq z102 (oMv rfl rfl) <| sgF rfl rfl (byF iDec hc1) rfl <| sgF rfl rfl (byF iDec hc1) rfl <| sgF rfl rfl (byF iDec hc1) rfl <| sq z102 (oPkF rfl rfl (byF iDec hc1) rfl) <| sq z102 (oAsI rfl rfl) <| nl, (Eq.trans (b := (fun t_6_m1 : Bool => mk [(6, bv t_6_m1)] []) false) (by kernel_rfl) (congrArg (fun t_6_m1 : Bool => mk [(6, bv t_6_m1)] []) (by first | rfl | (simp [(byF iDec hc1)]; done) | (simp [(byF iDec hc1)]; omega))))⟩
  · refine Unw.seq ?_
    refine Go.ret (Unw.ret ?_)
    cases h
    exact Fin_ret (fin_of rfl rF102 rfl (by kernel_rfl))
theorem L_spec_l30Room {r_0 : S_Room} {r : Bool} (h : spec_l30Room r_0 = some r) : FL Try.prog cfg 280 [.im 2 false [.cp [.sc (.int .i64 r_0.Width), .sc (.int .i64 r_0.Length)] 0]] = some ([(false, [.im 0 (.sc (.bool r))])], []) := by
  unfold spec_l30Room at h
  refine FL_goS (A := [(0, .v false [.im 2 (.cp [.sc (.int .i64 r_0.Width), .sc (.int .i64 r_0.Length)] 0)])]) (B := [(0, none)]) (nt := 15) rfl rfl Try.func280 rfl rfl rfl rfl ?_
  refine Go.seq ?_
  refine Go.r0 c280 rfl rfl (sq z280 (oAsI rfl rfl) <| nl) ?_
  refine Unw.seq ?_
  refine Go.seq ?_
  obtain ⟨x7, hx7, h⟩ := bs h
  obtain ⟨t_2_m1, hm2, h⟩ := bs h
  refine Go.rX c280 rfl rfl rfl (mk [(2, bv t_2_m1)] []) ?_ ?_
  · by_cases hc1 : x7 = true
    · rw [if_pos hc1] at hm2
      obtain ⟨x13, hx13, hm2⟩ := bs hm2
      cases hm2
      exact ⟨_, sq z280 (oMv rfl rfl) <| sq z280 (oNl rfl rfl rfl) <| sq z280 (oFA (r' := .im 2 _) rfl fF99_0 rfl rfl) <| sq z280 (oLd (cs := [.im 2 _]) rfl tF2 rfl rfl) <| sq z280 (oCa (xs := [.v false [.im 2 _], .v false [.im 0 _], .v false [.im 0 _]]) (vs := [(false, [.im 0 _])]) (v := .v false [.im 0 _]) (L_spec_l00In hx7) (.inl rfl) rfl kF102_2_2_2 rfl (ppC rfl (ppC rfl (ppC rfl pp0))) rfl rfl pb0 rfl rfl rfl) <| sq z280 (oMv rfl rfl) <| sgT z280 rfl rfl (Iff.rfl.2 hc1) (oMv rfl rfl) <| sgT z280 rfl rfl (Iff.rfl.2 hc1) (oNl rfl rfl rfl) <| sgT z280 rfl rfl (Iff.rfl.2 hc1) (oFA (r' := .im 2 _) rfl fF99_1 rfl rfl) <| sgT z280 rfl rfl (Iff.rfl.2 hc1) (oLd (cs := [.im 2 _]) rfl tF2 rfl rfl) <| sgT z280 rfl rfl (Iff.rfl.2 hc1) (oCa (xs := [.v false [.im 2 _], .v false [.im 0 _], .v false [.im 0 _]]) (vs := [(false, [.im 0 _])]) (v := .v false [.im 0 _]) (L_spec_l00In hx13) (.inl rfl) rfl kF102_2_2_2 rfl (ppC rfl (ppC rfl (ppC rfl pp0))) rfl rfl pb0 rfl rfl rfl) <| sq z280 (oPkT rfl rfl (Iff.rfl.2 hc1) rfl) <| sq z280 (oAsI rfl rfl) <| nl, (by kernel_rfl)⟩
    · rw [if_neg hc1] at hm2
      cases hm2
      exact ⟨_, sq z280 (oMv rfl rfl) <| sq z280 (oNl rfl rfl rfl) <| sq z280 (oFA (r' := .im 2 _) rfl fF99_0 rfl rfl) <| sq z280 (oLd (cs := [.im 2 _]) rfl tF2 rfl rfl) <| sq z280 (oCa (xs := [.v false [.im 2 _], .v false [.im 0 _], .v false [.im 0 _]]) (vs := [(false, [.im 0 _])]) (v := .v false [.im 0 _]) (L_spec_l00In hx7) (.inl rfl) rfl kF102_2_2_2 rfl (ppC rfl (ppC rfl (ppC rfl pp0))) rfl rfl pb0 rfl rfl rfl) <| sq z280 (oMv rfl rfl) <| sgF rfl rfl (byF Iff.rfl hc1) rfl <| sgF rfl rfl (byF Iff.rfl hc1) rfl <| sgF rfl rfl (byF Iff.rfl hc1) rfl <| sgF rfl rfl (byF Iff.rfl hc1) rfl <| sgF rfl rfl (byF Iff.rfl hc1) rfl <| sq z280 (oPkF rfl rfl (byF Iff.rfl hc1) rfl) <| sq z280 (oAsI rfl rfl) <| nl, (by kernel_rfl)⟩
  · refine Unw.seq ?_
    refine Go.ret (Unw.ret ?_)
    cases h
    exact Fin_ret (fin_of rfl rF280 rfl (by kernel_rfl))
theorem L_spec_l30Stock {k_0 : S_Stock} {r : Bool} (h : spec_l30Stock k_0 = some r) : FL Try.prog cfg 281 [.im 2 false [.cp [.sc (.int .i64 k_0.Board), .sc (.int .i64 k_0.Wide), .sc (.int .i64 k_0.Least), .sc (.int .i64 k_0.Stagger)] 0]] = some ([(false, [.im 0 (.sc (.bool r))])], []) := by
  unfold spec_l30Stock at h
  refine FL_goS (A := [(0, .v false [.im 2 (.cp [.sc (.int .i64 k_0.Board), .sc (.int .i64 k_0.Wide), .sc (.int .i64 k_0.Least), .sc (.int .i64 k_0.Stagger)] 0)])]) (B := [(0, none)]) (nt := 38) rfl rfl Try.func281 rfl rfl rfl rfl ?_
  refine Go.seq ?_
  refine Go.r0 c281 rfl rfl (sq z281 (oAsI rfl rfl) <| nl) ?_
  refine Unw.seq ?_
  refine Go.seq ?_
  obtain ⟨x7, hx7, h⟩ := bs h
  obtain ⟨t_2_m1, hm4, h⟩ := bs h
  refine Go.dr c281 rfl rfl rfl rfl (mk [(2, bv t_2_m1)] []) ?_ ?_
  · by_cases hc1 : x7 = true
    · rw [if_pos hc1] at hm4
      obtain ⟨x13, hx13, hm4⟩ := bs hm4
      by_cases hc2 : x13 = true
      · rw [if_pos hc2] at hm4
        obtain ⟨x24, hx24, hm4⟩ := bs hm4
        by_cases hc3 : x24 = true
        · rw [if_pos hc3] at hm4
          obtain ⟨x35, hx35, hm4⟩ := bs hm4
          obtain ⟨x36, hx36, hm4⟩ := bs hm4
          cases hm4
          exact sT rfl (dN z281 rfl (oMv rfl rfl)) <| sT rfl (dN z281 rfl (oNl rfl rfl rfl)) <| sT rfl (dN z281 rfl (oFA (r' := .im 2 _) rfl fF101_0 rfl rfl)) <| sT rfl (dN z281 rfl (oLd (cs := [.im 2 _]) rfl tF2 rfl rfl)) <| sS (dN z281 rfl (oCa (xs := [.v false [.im 2 _], .v false [.im 0 _], .v false [.im 0 _]]) (vs := [(false, [.im 0 _])]) (v := .v false [.im 0 _]) (L_spec_l00In hx7) (.inl rfl) rfl kF102_2_2_2 rfl (ppC rfl (ppC rfl (ppC rfl pp0))) rfl rfl pb0 rfl rfl rfl)) trivial (sT rfl (dN z281 rfl (oMv rfl rfl)) <| sT rfl (dT z281 rfl rfl rfl (Iff.rfl.2 hc1) (oMv rfl rfl)) <| sT rfl (dT z281 rfl rfl rfl (Iff.rfl.2 hc1) (oNl rfl rfl rfl)) <| sT rfl (dT z281 rfl rfl rfl (Iff.rfl.2 hc1) (oFA (r' := .im 2 _) rfl fF101_1 rfl rfl)) <| sT rfl (dT z281 rfl rfl rfl (Iff.rfl.2 hc1) (oLd (cs := [.im 2 _]) rfl tF2 rfl rfl)) <| sS (dT z281 rfl rfl rfl (Iff.rfl.2 hc1) (oCa (xs := [.v false [.im 2 _], .v false [.im 0 _], .v false [.im 0 _]]) (vs := [(false, [.im 0 _])]) (v := .v false [.im 0 _]) (L_spec_l00In hx13) (.inl rfl) rfl kF102_2_2_2 rfl (ppC rfl (ppC rfl (ppC rfl pp0))) rfl rfl pb0 rfl rfl rfl)) trivial (sT rfl (dN z281 rfl (oPkT rfl rfl (Iff.rfl.2 hc1) rfl)) <| sT rfl (dN z281 rfl (oMv rfl rfl)) <| sT rfl (dT z281 rfl rfl rfl (Iff.rfl.2 hc2) (oMv rfl rfl)) <| sT rfl (dT z281 rfl rfl rfl (Iff.rfl.2 hc2) (oNl rfl rfl rfl)) <| sT rfl (dT z281 rfl rfl rfl (Iff.rfl.2 hc2) (oFA (r' := .im 2 _) rfl fF101_2 rfl rfl)) <| sT rfl (dT z281 rfl rfl rfl (Iff.rfl.2 hc2) (oLd (cs := [.im 2 _]) rfl tF2 rfl rfl)) <| sT rfl (dT z281 rfl rfl rfl (Iff.rfl.2 hc2) (oMv rfl rfl)) <| sT rfl (dT z281 rfl rfl rfl (Iff.rfl.2 hc2) (oNl rfl rfl rfl)) <| sT rfl (dT z281 rfl rfl rfl (Iff.rfl.2 hc2) (oFA (r' := .im 2 _) rfl fF101_0 rfl rfl)) <| sT rfl (dT z281 rfl rfl rfl (Iff.rfl.2 hc2) (oLd (cs := [.im 2 _]) rfl tF2 rfl rfl)) <| sS (dT z281 rfl rfl rfl (Iff.rfl.2 hc2) (oCa (xs := [.v false [.im 2 _], .v false [.im 0 _], .v false [.im 2 _]]) (vs := [(false, [.im 0 _])]) (v := .v false [.im 0 _]) (L_spec_l00In hx24) (.inl rfl) rfl kF102_2_2_2 rfl (ppC rfl (ppC rfl (ppC rfl pp0))) rfl rfl pb0 rfl rfl rfl)) trivial (sT rfl (dN z281 rfl (oPkT rfl rfl (Iff.rfl.2 hc2) rfl)) <| sT rfl (dN z281 rfl (oMv rfl rfl)) <| sT rfl (dT z281 rfl rfl rfl (Iff.rfl.2 hc3) (oMv rfl rfl)) <| sT rfl (dT z281 rfl rfl rfl (Iff.rfl.2 hc3) (oNl rfl rfl rfl)) <| sT rfl (dT z281 rfl rfl rfl (Iff.rfl.2 hc3) (oFA (r' := .im 2 _) rfl fF101_3 rfl rfl)) <| sT rfl (dT z281 rfl rfl rfl (Iff.rfl.2 hc3) (oLd (cs := [.im 2 _]) rfl tF2 rfl rfl)) <| sT rfl (dT z281 rfl rfl rfl (Iff.rfl.2 hc3) (oMv rfl rfl)) <| sT rfl (dT z281 rfl rfl rfl (Iff.rfl.2 hc3) (oNl rfl rfl rfl)) <| sT rfl (dT z281 rfl rfl rfl (Iff.rfl.2 hc3) (oFA (r' := .im 2 _) rfl fF101_0 rfl rfl)) <| sT rfl (dT z281 rfl rfl rfl (Iff.rfl.2 hc3) (oLd (cs := [.im 2 _]) rfl tF2 rfl rfl)) <| sT rfl (dT z281 rfl rfl rfl (Iff.rfl.2 hc3) (oQuo rfl hx35 rfl rfl)) <| sS (dT z281 rfl rfl rfl (Iff.rfl.2 hc3) (oCa (xs := [.v false [.im 2 _], .v false [.im 0 _], .v false [.im 0 _]]) (vs := [(false, [.im 0 _])]) (v := .v false [.im 0 _]) (L_spec_l00In hx36) (.inl rfl) rfl kF102_2_2_2 rfl (ppC rfl (ppC rfl (ppC rfl pp0))) rfl rfl pb0 rfl rfl rfl)) trivial (sT rfl (dN z281 rfl (oPkT rfl rfl (Iff.rfl.2 hc3) rfl)) <| sS (dN z281 rfl (oAsI rfl rfl)) trivial (sD (by kernel_rfl))))))
        · rw [if_neg hc3] at hm4
          cases hm4
          exact sT rfl (dN z281 rfl (oMv rfl rfl)) <| sT rfl (dN z281 rfl (oNl rfl rfl rfl)) <| sT rfl (dN z281 rfl (oFA (r' := .im 2 _) rfl fF101_0 rfl rfl)) <| sT rfl (dN z281 rfl (oLd (cs := [.im 2 _]) rfl tF2 rfl rfl)) <| sS (dN z281 rfl (oCa (xs := [.v false [.im 2 _], .v false [.im 0 _], .v false [.im 0 _]]) (vs := [(false, [.im 0 _])]) (v := .v false [.im 0 _]) (L_spec_l00In hx7) (.inl rfl) rfl kF102_2_2_2 rfl (ppC rfl (ppC rfl (ppC rfl pp0))) rfl rfl pb0 rfl rfl rfl)) trivial (sT rfl (dN z281 rfl (oMv rfl rfl)) <| sT rfl (dT z281 rfl rfl rfl (Iff.rfl.2 hc1) (oMv rfl rfl)) <| sT rfl (dT z281 rfl rfl rfl (Iff.rfl.2 hc1) (oNl rfl rfl rfl)) <| sT rfl (dT z281 rfl rfl rfl (Iff.rfl.2 hc1) (oFA (r' := .im 2 _) rfl fF101_1 rfl rfl)) <| sT rfl (dT z281 rfl rfl rfl (Iff.rfl.2 hc1) (oLd (cs := [.im 2 _]) rfl tF2 rfl rfl)) <| sS (dT z281 rfl rfl rfl (Iff.rfl.2 hc1) (oCa (xs := [.v false [.im 2 _], .v false [.im 0 _], .v false [.im 0 _]]) (vs := [(false, [.im 0 _])]) (v := .v false [.im 0 _]) (L_spec_l00In hx13) (.inl rfl) rfl kF102_2_2_2 rfl (ppC rfl (ppC rfl (ppC rfl pp0))) rfl rfl pb0 rfl rfl rfl)) trivial (sT rfl (dN z281 rfl (oPkT rfl rfl (Iff.rfl.2 hc1) rfl)) <| sT rfl (dN z281 rfl (oMv rfl rfl)) <| sT rfl (dT z281 rfl rfl rfl (Iff.rfl.2 hc2) (oMv rfl rfl)) <| sT rfl (dT z281 rfl rfl rfl (Iff.rfl.2 hc2) (oNl rfl rfl rfl)) <| sT rfl (dT z281 rfl rfl rfl (Iff.rfl.2 hc2) (oFA (r' := .im 2 _) rfl fF101_2 rfl rfl)) <| sT rfl (dT z281 rfl rfl rfl (Iff.rfl.2 hc2) (oLd (cs := [.im 2 _]) rfl tF2 rfl rfl)) <| sT rfl (dT z281 rfl rfl rfl (Iff.rfl.2 hc2) (oMv rfl rfl)) <| sT rfl (dT z281 rfl rfl rfl (Iff.rfl.2 hc2) (oNl rfl rfl rfl)) <| sT rfl (dT z281 rfl rfl rfl (Iff.rfl.2 hc2) (oFA (r' := .im 2 _) rfl fF101_0 rfl rfl)) <| sT rfl (dT z281 rfl rfl rfl (Iff.rfl.2 hc2) (oLd (cs := [.im 2 _]) rfl tF2 rfl rfl)) <| sS (dT z281 rfl rfl rfl (Iff.rfl.2 hc2) (oCa (xs := [.v false [.im 2 _], .v false [.im 0 _], .v false [.im 2 _]]) (vs := [(false, [.im 0 _])]) (v := .v false [.im 0 _]) (L_spec_l00In hx24) (.inl rfl) rfl kF102_2_2_2 rfl (ppC rfl (ppC rfl (ppC rfl pp0))) rfl rfl pb0 rfl rfl rfl)) trivial (sT rfl (dN z281 rfl (oPkT rfl rfl (Iff.rfl.2 hc2) rfl)) <| sT rfl (dN z281 rfl (oMv rfl rfl)) <| sT rfl (dF rfl rfl rfl (byF Iff.rfl hc3) rfl) <| sT rfl (dF rfl rfl rfl (byF Iff.rfl hc3) rfl) <| sT rfl (dF rfl rfl rfl (byF Iff.rfl hc3) rfl) <| sT rfl (dF rfl rfl rfl (byF Iff.rfl hc3) rfl) <| sT rfl (dF rfl rfl rfl (byF Iff.rfl hc3) rfl) <| sT rfl (dF rfl rfl rfl (byF Iff.rfl hc3) rfl) <| sT rfl (dF rfl rfl rfl (byF Iff.rfl hc3) rfl) <| sT rfl (dF rfl rfl rfl (byF Iff.rfl hc3) rfl) <| sT rfl (dF rfl rfl rfl (byF Iff.rfl hc3) rfl) <| sS (dF rfl rfl rfl (byF Iff.rfl hc3) rfl) trivial (sT rfl (dN z281 rfl (oPkF rfl rfl (byF Iff.rfl hc3) rfl)) <| sS (dN z281 rfl (oAsI rfl rfl)) trivial (sD (by kernel_rfl))))))
      · rw [if_neg hc2] at hm4
        cases hm4
        exact sT rfl (dN z281 rfl (oMv rfl rfl)) <| sT rfl (dN z281 rfl (oNl rfl rfl rfl)) <| sT rfl (dN z281 rfl (oFA (r' := .im 2 _) rfl fF101_0 rfl rfl)) <| sT rfl (dN z281 rfl (oLd (cs := [.im 2 _]) rfl tF2 rfl rfl)) <| sS (dN z281 rfl (oCa (xs := [.v false [.im 2 _], .v false [.im 0 _], .v false [.im 0 _]]) (vs := [(false, [.im 0 _])]) (v := .v false [.im 0 _]) (L_spec_l00In hx7) (.inl rfl) rfl kF102_2_2_2 rfl (ppC rfl (ppC rfl (ppC rfl pp0))) rfl rfl pb0 rfl rfl rfl)) trivial (sT rfl (dN z281 rfl (oMv rfl rfl)) <| sT rfl (dT z281 rfl rfl rfl (Iff.rfl.2 hc1) (oMv rfl rfl)) <| sT rfl (dT z281 rfl rfl rfl (Iff.rfl.2 hc1) (oNl rfl rfl rfl)) <| sT rfl (dT z281 rfl rfl rfl (Iff.rfl.2 hc1) (oFA (r' := .im 2 _) rfl fF101_1 rfl rfl)) <| sT rfl (dT z281 rfl rfl rfl (Iff.rfl.2 hc1) (oLd (cs := [.im 2 _]) rfl tF2 rfl rfl)) <| sS (dT z281 rfl rfl rfl (Iff.rfl.2 hc1) (oCa (xs := [.v false [.im 2 _], .v false [.im 0 _], .v false [.im 0 _]]) (vs := [(false, [.im 0 _])]) (v := .v false [.im 0 _]) (L_spec_l00In hx13) (.inl rfl) rfl kF102_2_2_2 rfl (ppC rfl (ppC rfl (ppC rfl pp0))) rfl rfl pb0 rfl rfl rfl)) trivial (sT rfl (dN z281 rfl (oPkT rfl rfl (Iff.rfl.2 hc1) rfl)) <| sT rfl (dN z281 rfl (oMv rfl rfl)) <| sT rfl (dF rfl rfl rfl (byF Iff.rfl hc2) rfl) <| sT rfl (dF rfl rfl rfl (byF Iff.rfl hc2) rfl) <| sT rfl (dF rfl rfl rfl (byF Iff.rfl hc2) rfl) <| sT rfl (dF rfl rfl rfl (byF Iff.rfl hc2) rfl) <| sT rfl (dF rfl rfl rfl (byF Iff.rfl hc2) rfl) <| sT rfl (dF rfl rfl rfl (byF Iff.rfl hc2) rfl) <| sT rfl (dF rfl rfl rfl (byF Iff.rfl hc2) rfl) <| sT rfl (dF rfl rfl rfl (byF Iff.rfl hc2) rfl) <| sS (dF rfl rfl rfl (byF Iff.rfl hc2) rfl) trivial (sT rfl (dN z281 rfl (oPkF rfl rfl (byF Iff.rfl hc2) rfl)) <| sT rfl (dN z281 rfl (oMv rfl rfl)) <| sT rfl (dF rfl rfl rfl rfl rfl) <| sT rfl (dF rfl rfl rfl rfl rfl) <| sT rfl (dF rfl rfl rfl rfl rfl) <| sT rfl (dF rfl rfl rfl rfl rfl) <| sT rfl (dF rfl rfl rfl rfl rfl) <| sT rfl (dF rfl rfl rfl rfl rfl) <| sT rfl (dF rfl rfl rfl rfl rfl) <| sT rfl (dF rfl rfl rfl rfl rfl) <| sT rfl (dF rfl rfl rfl rfl rfl) <| sS (dF rfl rfl rfl rfl rfl) trivial (sT rfl (dN z281 rfl (oPkF rfl rfl rfl rfl)) <| sS (dN z281 rfl (oAsI rfl rfl)) trivial (sD (by kernel_rfl))))))
    · rw [if_neg hc1] at hm4
      cases hm4
      exact sT rfl (dN z281 rfl (oMv rfl rfl)) <| sT rfl (dN z281 rfl (oNl rfl rfl rfl)) <| sT rfl (dN z281 rfl (oFA (r' := .im 2 _) rfl fF101_0 rfl rfl)) <| sT rfl (dN z281 rfl (oLd (cs := [.im 2 _]) rfl tF2 rfl rfl)) <| sS (dN z281 rfl (oCa (xs := [.v false [.im 2 _], .v false [.im 0 _], .v false [.im 0 _]]) (vs := [(false, [.im 0 _])]) (v := .v false [.im 0 _]) (L_spec_l00In hx7) (.inl rfl) rfl kF102_2_2_2 rfl (ppC rfl (ppC rfl (ppC rfl pp0))) rfl rfl pb0 rfl rfl rfl)) trivial (sT rfl (dN z281 rfl (oMv rfl rfl)) <| sT rfl (dF rfl rfl rfl (byF Iff.rfl hc1) rfl) <| sT rfl (dF rfl rfl rfl (byF Iff.rfl hc1) rfl) <| sT rfl (dF rfl rfl rfl (byF Iff.rfl hc1) rfl) <| sT rfl (dF rfl rfl rfl (byF Iff.rfl hc1) rfl) <| sS (dF rfl rfl rfl (byF Iff.rfl hc1) rfl) trivial (sT rfl (dN z281 rfl (oPkF rfl rfl (byF Iff.rfl hc1) rfl)) <| sT rfl (dN z281 rfl (oMv rfl rfl)) <| sT rfl (dF rfl rfl rfl rfl rfl) <| sT rfl (dF rfl rfl rfl rfl rfl) <| sT rfl (dF rfl rfl rfl rfl rfl) <| sT rfl (dF rfl rfl rfl rfl rfl) <| sT rfl (dF rfl rfl rfl rfl rfl) <| sT rfl (dF rfl rfl rfl rfl rfl) <| sT rfl (dF rfl rfl rfl rfl rfl) <| sT rfl (dF rfl rfl rfl rfl rfl) <| sS (dF rfl rfl rfl rfl rfl) trivial (sT rfl (dN z281 rfl (oPkF rfl rfl rfl rfl)) <| sT rfl (dN z281 rfl (oMv rfl rfl)) <| sT rfl (dF rfl rfl rfl rfl rfl) <| sT rfl (dF rfl rfl rfl rfl rfl) <| sT rfl (dF rfl rfl rfl rfl rfl) <| sT rfl (dF rfl rfl rfl rfl rfl) <| sT rfl (dF rfl rfl rfl rfl rfl) <| sT rfl (dF rfl rfl rfl rfl rfl) <| sT rfl (dF rfl rfl rfl rfl rfl) <| sT rfl (dF rfl rfl rfl rfl rfl) <| sT rfl (dF rfl rfl rfl rfl rfl) <| sS (dF rfl rfl rfl rfl rfl) trivial (sT rfl (dN z281 rfl (oPkF rfl rfl rfl rfl)) <| sS (dN z281 rfl (oAsI rfl rfl)) trivial (sD (by kernel_rfl))))))
  · refine Unw.seq ?_
    refine Go.ret (Unw.ret ?_)
    cases h
    exact Fin_ret (fin_of rfl rF281 rfl (by kernel_rfl))
theorem L_spec_l30Ok {r_0 : S_Room} {k_1 : S_Stock} {r : Bool} (h : spec_l30Ok r_0 k_1 = some r) : FL Try.prog cfg 267 [.im 2 false [.cp [.sc (.int .i64 r_0.Width), .sc (.int .i64 r_0.Length)] 0], .im 2 false [.cp [.sc (.int .i64 k_1.Board), .sc (.int .i64 k_1.Wide), .sc (.int .i64 k_1.Least), .sc (.int .i64 k_1.Stagger)] 0]] = some ([(false, [.im 0 (.sc (.bool r))])], []) := by
  unfold spec_l30Ok at h
  refine FL_goS (A := [(0, .v false [.im 2 (.cp [.sc (.int .i64 r_0.Width), .sc (.int .i64 r_0.Length)] 0)]), (1, .v false [.im 2 (.cp [.sc (.int .i64 k_1.Board), .sc (.int .i64 k_1.Wide), .sc (.int .i64 k_1.Least), .sc (.int .i64 k_1.Stagger)] 0)])]) (B := [(0, none), (1, none)]) (nt := 11) rfl rfl Try.func267 rfl rfl rfl rfl ?_
  refine Go.seq ?_
  refine Go.r0 c267 rfl rfl (sq z267 (oAsI rfl rfl) <| nl) ?_
  refine Unw.seq ?_
  refine Go.seq ?_
  obtain ⟨x6, hx6, h⟩ := bs h
  obtain ⟨t_4_m1, hm2, h⟩ := bs h
  refine Go.rX c267 rfl rfl rfl (mk [(4, bv t_4_m1)] []) ?_ ?_
  · by_cases hc1 : x6 = true
    · rw [if_pos hc1] at hm2
      obtain ⟨x9, hx9, hm2⟩ := bs hm2
      cases hm2
      exact ⟨_, sq z267 (oMv rfl rfl) <| sq z267 (oCa (xs := [.v false [.im 2 _]]) (vs := [(false, [.im 0 _])]) (v := .v false [.im 0 _]) (L_spec_l30Room hx6) (.inl rfl) rfl kF280_354 rfl (ppC rfl pp0) rfl rfl pb0 rfl rfl rfl) <| sq z267 (oMv rfl rfl) <| sgT z267 rfl rfl (Iff.rfl.2 hc1) (oMv rfl rfl) <| sgT z267 rfl rfl (Iff.rfl.2 hc1) (oCa (xs := [.v false [.im 2 _]]) (vs := [(false, [.im 0 _])]) (v := .v false [.im 0 _]) (L_spec_l30Stock hx9) (.inl rfl) rfl kF281_330 rfl (ppC rfl pp0) rfl rfl pb0 rfl rfl rfl) <| sq z267 (oPkT rfl rfl (Iff.rfl.2 hc1) rfl) <| sq z267 (oAsI rfl rfl) <| nl, (by kernel_rfl)⟩
    · rw [if_neg hc1] at hm2
      cases hm2
      exact ⟨_, sq z267 (oMv rfl rfl) <| sq z267 (oCa (xs := [.v false [.im 2 _]]) (vs := [(false, [.im 0 _])]) (v := .v false [.im 0 _]) (L_spec_l30Room hx6) (.inl rfl) rfl kF280_354 rfl (ppC rfl pp0) rfl rfl pb0 rfl rfl rfl) <| sq z267 (oMv rfl rfl) <| sgF rfl rfl (byF Iff.rfl hc1) rfl <| sgF rfl rfl (byF Iff.rfl hc1) rfl <| sq z267 (oPkF rfl rfl (byF Iff.rfl hc1) rfl) <| sq z267 (oAsI rfl rfl) <| nl, (by kernel_rfl)⟩
  · refine Unw.seq ?_
    refine Go.ret (Unw.ret ?_)
    cases h
    exact Fin_ret (fin_of rfl rF267 rfl (by kernel_rfl))
theorem L_spec_l28Up {a_0 : Int} {b_1 : Int} {r : Int} (h : spec_l28Up a_0 b_1 = some r) : FL Try.prog cfg 282 [.im 2 false [.sc (.int .i64 a_0)], .im 2 false [.sc (.int .i64 b_1)]] = some ([(false, [.im 0 (.sc (.int .i64 r))])], []) := by
  unfold spec_l28Up at h
  refine FL_goS (A := [(0, .v false [.im 2 (.sc (.int .i64 a_0))]), (1, .v false [.im 2 (.sc (.int .i64 b_1))])]) (B := [(0, none), (1, none)]) (nt := 11) rfl rfl Try.func282 rfl rfl rfl rfl ?_
  refine Go.seq ?_
  refine Go.r0 c282 rfl rfl (sq z282 (oAsI rfl rfl) <| nl) ?_
  refine Unw.seq ?_
  refine Go.seq ?_
  obtain ⟨x10, hx10, h⟩ := bs h
  refine Go.r0 c282 rfl rfl (sq z282 (oMv rfl rfl) <| sq z282 (oMv rfl rfl) <| sq z282 (oBi rfl rfl rfl rfl) <| sq z282 (oBi rfl rfl rfl rfl) <| sq z282 (oMv rfl rfl) <| sq z282 (oQuo rfl hx10 rfl rfl) <| sq z282 (oAsI rfl rfl) <| nl) ?_
  refine Unw.seq ?_
  refine Go.ret (Unw.ret ?_)
  cases h
  exact Fin_ret (fin_of rfl rF282 rfl (by kernel_rfl))
theorem L_spec_l30Rows {r_0 : S_Room} {k_1 : S_Stock} {r : Int} (h : spec_l30Rows r_0 k_1 = some r) : FL Try.prog cfg 268 [.im 2 false [.cp [.sc (.int .i64 r_0.Width), .sc (.int .i64 r_0.Length)] 0], .im 2 false [.cp [.sc (.int .i64 k_1.Board), .sc (.int .i64 k_1.Wide), .sc (.int .i64 k_1.Least), .sc (.int .i64 k_1.Stagger)] 0]] = some ([(false, [.im 0 (.sc (.int .i64 r))])], []) := by
  unfold spec_l30Rows at h
  refine FL_goS (A := [(0, .v false [.im 2 (.cp [.sc (.int .i64 r_0.Width), .sc (.int .i64 r_0.Length)] 0)]), (1, .v false [.im 2 (.cp [.sc (.int .i64 k_1.Board), .sc (.int .i64 k_1.Wide), .sc (.int .i64 k_1.Least), .sc (.int .i64 k_1.Stagger)] 0)])]) (B := [(0, none), (1, none)]) (nt := 14) rfl rfl Try.func268 rfl rfl rfl rfl ?_
  refine Go.seq ?_
  refine Go.r0 c268 rfl rfl (sq z268 (oAsI rfl rfl) <| nl) ?_
  refine Unw.seq ?_
  refine Go.seq ?_
  obtain ⟨x13, hx13, h⟩ := bs h
  refine Go.dr c268 rfl rfl rfl rfl (mk [(4, iv x13)] []) (sT rfl (dN z268 rfl (oMv rfl rfl)) <| sT rfl (dN z268 rfl (oNl rfl rfl rfl)) <| sT rfl (dN z268 rfl (oFA (r' := .im 2 _) rfl fF99_1 rfl rfl)) <| sT rfl (dN z268 rfl (oLd (cs := [.im 2 _]) rfl tF2 rfl rfl)) <| sT rfl (dN z268 rfl (oMv rfl rfl)) <| sT rfl (dN z268 rfl (oNl rfl rfl rfl)) <| sT rfl (dN z268 rfl (oFA (r' := .im 2 _) rfl fF101_1 rfl rfl)) <| sT rfl (dN z268 rfl (oLd (cs := [.im 2 _]) rfl tF2 rfl rfl)) <| sS (dN z268 rfl (oCa (xs := [.v false [.im 2 _], .v false [.im 2 _]]) (vs := [(false, [.im 0 _])]) (v := .v false [.im 0 _]) (L_spec_l28Up hx13) (.inl rfl) rfl kF282_2_2 rfl (ppC rfl (ppC rfl pp0)) rfl rfl pb0 rfl rfl rfl)) trivial (sS (dN z268 rfl (oAsI rfl rfl)) trivial (sD (by kernel_rfl)))) ?_
  refine Unw.seq ?_
  refine Go.ret (Unw.ret ?_)
  cases h
  exact Fin_ret (fin_of rfl rF268 rfl (by kernel_rfl))
theorem L_spec_l30Left {k_0 : S_Stock} {pieces_1 : (List Int)} {r : Int} (h : spec_l30Left k_0 pieces_1 = some r) : FL Try.prog cfg 269 [.im 2 false [.cp [.sc (.int .i64 k_0.Board), .sc (.int .i64 k_0.Wide), .sc (.int .i64 k_0.Least), .sc (.int .i64 k_0.Stagger)] 0], .im 2 false [.row 1 (List.map eI pieces_1)]] = some ([(false, [.im 0 (.sc (.int .i64 r))])], []) := by
  unfold spec_l30Left at h
  refine FL_goS (A := [(0, .v false [.im 2 (.cp [.sc (.int .i64 k_0.Board), .sc (.int .i64 k_0.Wide), .sc (.int .i64 k_0.Least), .sc (.int .i64 k_0.Stagger)] 0)]), (1, .v false [.im 2 (.row 1 (List.map eI pieces_1))])]) (B := [(0, none), (1, none)]) (nt := 19) rfl rfl Try.func269 rfl rfl rfl rfl ?_
  refine Go.seq ?_
  refine Go.r0 c269 rfl rfl (sq z269 (oAsI rfl rfl) <| nl) ?_
  refine Unw.seq ?_
  refine Go.seq ?_
  refine Go.seq ?_
  refine Go.r0 c269 rfl rfl (sq z269 (oMv rfl rfl) <| sq z269 (oLnI rfl rfl uF27 rfl) <| sq z269 (oBi rfl rfl rfl rfl) <| nl) ?_
  refine Unw.seq ?_
  by_cases hc1 : (pieces_1.length : Int) < 2
  · rw [if_pos hc1] at h
    refine Go.condT rfl (iDec.2 hc1) ?_
    refine Go.seq ?_
    refine Go.r0 c269 rfl rfl (sq z269 (oAsI rfl rfl) <| nl) ?_
    refine Unw.seq ?_
    refine Go.ret (Unw.ret ?_)
    cases h
    exact Fin_ret (fin_of rfl rF269 rfl (by kernel_rfl))
  · rw [if_neg hc1] at h
    refine Go.condF rfl (byF iDec hc1) ?_
    refine Go.skip ?_
    refine Unw.seq ?_
    refine Go.seq ?_
    obtain ⟨x16, hx16, h⟩ := bs h
    refine Go.dr c269 rfl rfl rfl rfl (mk [(4, iv (w64 (k_0.Board - x16)))] []) (sT rfl (dN z269 rfl (oMv rfl rfl)) <| sT rfl (dN z269 rfl (oNl rfl rfl rfl)) <| sT rfl (dN z269 rfl (oFA (r' := .im 2 _) rfl fF101_0 rfl rfl)) <| sT rfl (dN z269 rfl (oLd (cs := [.im 2 _]) rfl tF2 rfl rfl)) <| sT rfl (dN z269 rfl (oMv rfl rfl)) <| sT rfl (dN z269 rfl (oMv rfl rfl)) <| sT rfl (dN z269 rfl (oLnI rfl rfl uF27 rfl)) <| sT rfl (dN z269 rfl (oBi rfl rfl rfl rfl)) <| sT rfl (dN z269 rfl (oIAI rfl hx16 sF27 rfl rfl)) <| sT rfl (dN z269 rfl (oLd (cs := [.im 2 _]) rfl tF2 rfl rfl)) <| sT rfl (dN z269 rfl (oBi rfl rfl rfl rfl)) <| sS (dN z269 rfl (oAsI rfl rfl)) trivial (sD (by kernel_rfl))) ?_
    refine Unw.seq ?_
    refine Go.ret (Unw.ret ?_)
    cases h
    exact Fin_ret (fin_of rfl rF269 rfl (by kernel_rfl))
theorem L_spec_l30Pieces {r_0 : S_Room} {k_1 : S_Stock} {first_2 : Int} {r : ((List Int) × Int)} (h : spec_l30Pieces r_0 k_1 first_2 = some r) : FL Try.prog cfg 270 [.im 2 false [.cp [.sc (.int .i64 r_0.Width), .sc (.int .i64 r_0.Length)] 0], .im 2 false [.cp [.sc (.int .i64 k_1.Board), .sc (.int .i64 k_1.Wide), .sc (.int .i64 k_1.Least), .sc (.int .i64 k_1.Stagger)] 0], .im 2 false [.sc (.int .i64 first_2)]] = some ([(false, [.ow 0 1 (List.map eI r.1)]), (false, [.im 0 (.sc (.int .i64 r.2))])], []) := by
  unfold spec_l30Pieces at h
  refine FL_goS (A := [(0, .v false [.im 2 (.cp [.sc (.int .i64 r_0.Width), .sc (.int .i64 r_0.Length)] 0)]), (1, .v false [.im 2 (.cp [.sc (.int .i64 k_1.Board), .sc (.int .i64 k_1.Wide), .sc (.int .i64 k_1.Least), .sc (.int .i64 k_1.Stagger)] 0)]), (2, .v false [.im 2 (.sc (.int .i64 first_2))])]) (B := [(0, none), (1, none), (2, none)]) (nt := 69) rfl rfl Try.func270 rfl rfl rfl rfl ?_
  refine Go.seq ?_
  refine Go.r0 c270 rfl rfl (sq z270 (oAsN rfl rfl eF27) <| sq z270 (oAsI rfl rfl) <| nl) ?_
  refine Unw.seq ?_
  refine Go.seq ?_
  refine Go.seq ?_
  obtain ⟨x19, hx19, h⟩ := bs h
  refine Go.dr c270 rfl rfl rfl rfl (mk [(0, .v false [.im 2 (.cp [.sc (.int .i64 r_0.Width), .sc (.int .i64 r_0.Length)] 0)]), (1, .v false [.im 2 (.cp [.sc (.int .i64 k_1.Board), .sc (.int .i64 k_1.Wide), .sc (.int .i64 k_1.Least), .sc (.int .i64 k_1.Stagger)] 0)]), (2, iv first_2), (20, bv (!x19))] []) (sT rfl (dN z270 rfl (oMv rfl rfl)) <| sT rfl (dN z270 rfl (oMv rfl rfl)) <| sT rfl (dN z270 rfl (oNl rfl rfl rfl)) <| sT rfl (dN z270 rfl (oFA (r' := .im 2 _) rfl fF101_2 rfl rfl)) <| sT rfl (dN z270 rfl (oLd (cs := [.im 2 _]) rfl tF2 rfl rfl)) <| sT rfl (dN z270 rfl (oMv rfl rfl)) <| sT rfl (dN z270 rfl (oNl rfl rfl rfl)) <| sT rfl (dN z270 rfl (oFA (r' := .im 2 _) rfl fF101_0 rfl rfl)) <| sT rfl (dN z270 rfl (oLd (cs := [.im 2 _]) rfl tF2 rfl rfl)) <| sS (dN z270 rfl (oCa (xs := [.v false [.im 2 _], .v false [.im 2 _], .v false [.im 2 _]]) (vs := [(false, [.im 0 _])]) (v := .v false [.im 0 _]) (L_spec_l00In hx19) (.inl rfl) rfl kF102_2_2_2 rfl (ppC rfl (ppC rfl (ppC rfl pp0))) rfl rfl pb0 rfl rfl rfl)) trivial (sT rfl (dN z270 rfl (oUn rfl rfl rfl)) <| sD (by kernel_rfl))) ?_
  refine Unw.seq ?_
  by_cases hc1 : x19 = true
  · rw [if_pos hc1] at h
    refine Go.condF rfl (nF (Iff.rfl.2 hc1)) ?_
    refine Go.skip ?_
    refine Unw.seq ?_
    refine Go.seq ?_
    refine Go.seq ?_
    refine Go.r0 c270 rfl rfl (sq z270 (oMv rfl rfl) <| sq z270 (oNl rfl rfl rfl) <| sq z270 (oFA (r' := .im 2 _) rfl fF99_0 rfl rfl) <| sq z270 (oLd (cs := [.im 2 _]) rfl tF2 rfl rfl) <| sq z270 (oMv rfl rfl) <| sq z270 (oBi rfl rfl rfl rfl) <| nl) ?_
    refine Unw.seq ?_
    by_cases hc2 : r_0.Width ≤ first_2
    · rw [if_pos hc2] at h
      refine Go.condT rfl (iDec.2 hc2) ?_
      refine Go.seq ?_
      refine Go.r0 c270 rfl rfl (sq z270 (oMv rfl rfl) <| sq z270 (oNl rfl rfl rfl) <| sq z270 (oFA (r' := .im 2 _) rfl fF99_0 rfl rfl) <| sq z270 (oLd (cs := [.im 2 _]) rfl tF2 rfl rfl) <| sq z270 (oBS (es := List.map eI ([r_0.Width] : List Int)) rfl sF27 rfl (ptC rfl (fxI fx0) rfl pt0) (flat0 rfl fun _ => rfl)) <| sq z270 (oAsO rfl rfl rfl rfl rfl) <| sq z270 (oAsI rfl rfl) <| nl) ?_
      refine Unw.seq ?_
      refine Go.ret (Unw.ret ?_)
      cases h
      exact Fin_ret (fin_of rfl rF270 rfl (by kernel_rfl))
    · rw [if_neg hc2] at h
      refine Go.condF rfl (byF iDec hc2) ?_
      refine Go.skip ?_
      refine Unw.seq ?_
      refine Go.seq ?_
      refine Go.r0 c270 rfl rfl (sq z270 (oMv rfl rfl) <| sq z270 (oBS (es := List.map eI ([first_2] : List Int)) rfl sF27 rfl (ptC rfl (fxI fx0) rfl pt0) (flat0 rfl fun _ => rfl)) <| sq z270 (oAsO rfl rfl rfl rfl rfl) <| nl) ?_
      refine Unw.seq ?_
      refine Go.seq ?_
      refine Go.r0 c270 rfl rfl (sq z270 (oMv rfl rfl) <| sq z270 (oNl rfl rfl rfl) <| sq z270 (oFA (r' := .im 2 _) rfl fF99_0 rfl rfl) <| sq z270 (oLd (cs := [.im 2 _]) rfl tF2 rfl rfl) <| sq z270 (oMv rfl rfl) <| sq z270 (oBi rfl rfl rfl rfl) <| sq z270 (oAsI rfl rfl) <| nl) ?_
      refine Unw.seq ?_
      refine Go.seq ?_
      refine Go.block ?_
      obtain ⟨o, hl, h⟩ := bs h
      refine Go.lp c270 rfl _ (fun (s : (Int × (List Int))) => match s with | (rest_9_l7, out_o8_l7) => mk [(1, .v false [.im 2 (.cp [.sc (.int .i64 k_1.Board), .sc (.int .i64 k_1.Wide), .sc (.int .i64 k_1.Least), .sc (.int .i64 k_1.Stagger)] 0)]), (8, .v false [.own 8 0 0]), (9, iv rest_9_l7)] [(8, some ⟨0, 0, false, false, false, false, [⟨.sh, 0, 0, .row 1 (List.map eI out_o8_l7)⟩]⟩)]) (fun (o : (Int × (List Int))) (p : Ex × St) => match o with | (rest_9_e0_7, out_o8_e0_7) => p.1 = .exit 0 ∧ p.2.norm ([1, 8, 9], [8]) = mk [(1, .v false [.im 2 (.cp [.sc (.int .i64 k_1.Board), .sc (.int .i64 k_1.Wide), .sc (.int .i64 k_1.Least), .sc (.int .i64 k_1.Stagger)] 0)]), (8, .v false [.own 8 0 0]), (9, iv rest_9_e0_7)] [(8, some ⟨0, 0, false, false, false, false, [⟨.sh, 0, 0, .row 1 (List.map eI out_o8_e0_7)⟩]⟩)]) hl (by kernel_rfl) ?_ ?_ ?_
      · intro o p hp e
        obtain ⟨rest_9_e0_7, out_o8_e0_7⟩ := o
        exact nomatch (hp.1.symm.trans e)
      · rintro ⟨rest_9_l7, out_o8_l7⟩ o h
        unfold spec_l30Pieces_l7 at h
        dsimp only at h
        refine Go.seq ?_
        refine Go.seq ?_
        refine Go.r0 c270 rfl rfl (sq z270 (oMv rfl rfl) <| sq z270 (oMv rfl rfl) <| sq z270 (oNl rfl rfl rfl) <| sq z270 (oFA (r' := .im 2 _) rfl fF101_0 rfl rfl) <| sq z270 (oLd (cs := [.im 2 _]) rfl tF2 rfl rfl) <| sq z270 (oBi rfl rfl rfl rfl) <| nl) ?_
        refine Unw.seq ?_
        by_cases hc6 : rest_9_l7 > k_1.Board
        · rw [if_pos hc6] at h
          refine Go.condT rfl (iDec.2 hc6) ?_
          refine Go.skip ?_
          refine Unw.seq ?_
          refine Go.block ?_
          refine Go.seq ?_
          obtain ⟨x52, hx52, h⟩ := bs h
          refine Go.r0 c270 rfl rfl (sq z270 (oMv rfl rfl) <| sq z270 (oMv rfl rfl) <| sq z270 (oNl rfl rfl rfl) <| sq z270 (oFA (r' := .im 2 _) rfl fF101_0 rfl rfl) <| sq z270 (oLd (cs := [.im 2 _]) rfl tF2 rfl rfl) <| sq z270 (oBS (es := List.map eI ([k_1.Board] : List Int)) rfl sF27 rfl (ptC rfl (fxI fx0) rfl pt0) (flat0 rfl fun _ => rfl)) <| sq z270 (oApO (en := eI) (M := ([k_1.Board] : List Int)) rfl hx52 rfl sF27 rfl rfl uF27 (.inl ⟨_, rfl⟩) rfl rfl rfl rfl (el_own rfl rfl) (flat0 rfl fun _ => rfl)) <| sq z270 (oAsO rfl rfl rfl rfl rfl) <| nl) ?_
          refine Unw.seq ?_
          refine Go.r0 c270 rfl rfl (sq z270 (oMv rfl rfl) <| sq z270 (oMv rfl rfl) <| sq z270 (oNl rfl rfl rfl) <| sq z270 (oFA (r' := .im 2 _) rfl fF101_0 rfl rfl) <| sq z270 (oLd (cs := [.im 2 _]) rfl tF2 rfl rfl) <| sq z270 (oBi rfl rfl rfl rfl) <| sq z270 (oAsI rfl rfl) <| nl) ?_
          refine Unw.blk ?_
          refine Unw.nil ?_
          cases h
          exact ⟨rfl, (by kernel_rfl)⟩
        · rw [if_neg hc6] at h
          refine Go.condF rfl (byF iDec hc6) ?_
          refine Go.exit ?_
          refine Unw.seqx ?_
          refine Unw.nil ?_
          cases h
          exact ⟨rfl, (by kernel_rfl)⟩
      · rintro ⟨e, st⟩ hp
        obtain ⟨rest_9_e0_7, out_o8_e0_7⟩ := o
        dsimp only at h
        obtain ⟨he, hst⟩ := hp
        obtain rfl : e = .exit 0 := he
        refine Unw.blkx ?_
        refine Unw.seq ?_
        refine Go.seq ?_
        refine Go.seq ?_
        refine Go.r1 c270 rfl rfl hst (sq z270 (oMv rfl rfl) <| sq z270 (oMv rfl rfl) <| sq z270 (oNl rfl rfl rfl) <| sq z270 (oFA (r' := .im 2 _) rfl fF101_2 rfl rfl) <| sq z270 (oLd (cs := [.im 2 _]) rfl tF2 rfl rfl) <| sq z270 (oBi rfl rfl rfl rfl) <| nl) ?_
        refine Unw.seq ?_
        by_cases hc5 : rest_9_e0_7 < k_1.Least
        · rw [if_pos hc5] at h
          refine Go.condT rfl (iDec.2 hc5) ?_
          refine Go.seq ?_
          refine Go.r0 c270 rfl rfl (sq z270 (oAsN rfl rfl eF27) <| sq z270 (oAsI rfl rfl) <| nl) ?_
          refine Unw.seq ?_
          refine Go.ret (Unw.ret ?_)
          cases h
          exact Fin_ret (fin_of rfl rF270 rfl (by kernel_rfl))
        · rw [if_neg hc5] at h
          refine Go.condF rfl (byF iDec hc5) ?_
          refine Go.skip ?_
          refine Unw.seq ?_
          refine Go.seq ?_
          obtain ⟨x68, hx68, h⟩ := bs h
          refine Go.r0 c270 rfl rfl (sq z270 (oMv rfl rfl) <| sq z270 (oMv rfl rfl) <| sq z270 (oBS (es := List.map eI ([rest_9_e0_7] : List Int)) rfl sF27 rfl (ptC rfl (fxI fx0) rfl pt0) (flat0 rfl fun _ => rfl)) <| sq z270 (oApO (en := eI) (M := ([rest_9_e0_7] : List Int)) rfl hx68 rfl sF27 rfl rfl uF27 (.inl ⟨_, rfl⟩) rfl rfl rfl rfl (el_own rfl rfl) (flat0 rfl fun _ => rfl)) <| sq z270 (oAsO rfl rfl rfl rfl rfl) <| sq z270 (oAsI rfl rfl) <| nl) ?_
          refine Unw.seq ?_
          refine Go.ret (Unw.ret ?_)
          cases h
          exact Fin_ret (fin_of rfl rF270 rfl (by kernel_rfl))
  · rw [if_neg hc1] at h
    refine Go.condT rfl (nT (byF Iff.rfl hc1)) ?_
    refine Go.seq ?_
    refine Go.r0 c270 rfl rfl (sq z270 (oAsN rfl rfl eF27) <| sq z270 (oAsI rfl rfl) <| nl) ?_
    refine Unw.seq ?_
    refine Go.ret (Unw.ret ?_)
    cases h
    exact Fin_ret (fin_of rfl rF270 rfl (by kernel_rfl))
theorem L_spec_l30Joints {pieces_0 : (List Int)} {r : (List Int)} (h : spec_l30Joints pieces_0 = some r) : FL Try.prog cfg 283 [.im 2 false [.row 1 (List.map eI pieces_0)]] = some ([(false, [.ow 0 1 (List.map eI r)])], []) := by
  unfold spec_l30Joints at h
  refine FL_goS (A := [(0, .v false [.im 2 (.row 1 (List.map eI pieces_0))])]) (B := [(0, none)]) (nt := 25) rfl rfl Try.func283 rfl rfl rfl rfl ?_
  refine Go.seq ?_
  refine Go.r0 c283 rfl rfl (sq z283 (oAsN rfl rfl eF27) <| nl) ?_
  refine Unw.seq ?_
  refine Go.seq ?_
  refine Go.r0 c283 rfl rfl (sq z283 (oBS (es := List.map eI ([] : List Int)) rfl sF27 rfl pt0 (flat0 rfl fun _ => rfl)) <| sq z283 (oAsO rfl rfl rfl rfl rfl) <| nl) ?_
  refine Unw.seq ?_
  refine Go.seq ?_
  refine Go.r0 c283 rfl rfl (sq z283 (oAsI rfl rfl) <| nl) ?_
  refine Unw.seq ?_
  refine Go.seq ?_
  refine Go.seq ?_
  refine Go.r0 c283 rfl rfl (sq z283 (oAsI rfl rfl) <| nl) ?_
  refine Unw.seq ?_
  refine Go.block ?_
  obtain ⟨o, hl, h⟩ := bs h
  refine Go.lp c283 rfl _ (fun (s : (Int × Int × (List Int))) => match s with | (at_4_l4, i_5_l4, out_o3_l4) => mk [(0, .v false [.im 2 (.row 1 (List.map eI pieces_0))]), (3, .v false [.own 3 0 0]), (4, iv at_4_l4), (5, iv i_5_l4)] [(3, some ⟨0, 0, false, false, false, false, [⟨.sh, 0, 0, .row 1 (List.map eI out_o3_l4)⟩]⟩)]) (fun (out_o3_e0_4 : (List Int)) (p : Ex × St) => p.1 = .exit 0 ∧ p.2.norm ([3], [3]) = mk [(3, .v false [.own 3 0 0])] [(3, some ⟨0, 0, false, false, false, false, [⟨.sh, 0, 0, .row 1 (List.map eI out_o3_e0_4)⟩]⟩)]) hl (by kernel_rfl) ?_ ?_ ?_
  · intro o p hp e
    exact nomatch (hp.1.symm.trans e)
  · rintro ⟨at_4_l4, i_5_l4, out_o3_l4⟩ o h
    unfold spec_l30Joints_l4 at h
    dsimp only at h
    refine Go.seq ?_
    refine Go.seq ?_
    refine Go.r0 c283 rfl rfl (sq z283 (oMv rfl rfl) <| sq z283 (oBi rfl rfl rfl rfl) <| sq z283 (oMv rfl rfl) <| sq z283 (oLnI rfl rfl uF27 rfl) <| sq z283 (oBi rfl rfl rfl rfl) <| nl) ?_
    refine Unw.seq ?_
    by_cases hc3 : (w64 (i_5_l4 + 1)) < (pieces_0.length : Int)
    · rw [if_pos hc3] at h
      refine Go.condT rfl (iDec.2 hc3) ?_
      refine Go.skip ?_
      refine Unw.seq ?_
      refine Go.seq ?_
      refine Go.block ?_
      refine Go.seq ?_
      obtain ⟨x17, hx17, h⟩ := bs h
      refine Go.r0 c283 rfl rfl (sq z283 (oMv rfl rfl) <| sq z283 (oMv rfl rfl) <| sq z283 (oMv rfl rfl) <| sq z283 (oIAI rfl hx17 sF27 rfl rfl) <| sq z283 (oLd (cs := [.im 2 _]) rfl tF2 rfl rfl) <| sq z283 (oBi rfl rfl rfl rfl) <| sq z283 (oAsI rfl rfl) <| nl) ?_
      refine Unw.seq ?_
      obtain ⟨x23, hx23, h⟩ := bs h
      refine Go.r0 c283 rfl rfl (sq z283 (oMv rfl rfl) <| sq z283 (oMv rfl rfl) <| sq z283 (oBS (es := List.map eI ([(w64 (at_4_l4 + x17))] : List Int)) rfl sF27 rfl (ptC rfl (fxI fx0) rfl pt0) (flat0 rfl fun _ => rfl)) <| sq z283 (oApO (en := eI) (M := ([(w64 (at_4_l4 + x17))] : List Int)) rfl hx23 rfl sF27 rfl rfl uF27 (.inl ⟨_, rfl⟩) rfl rfl rfl rfl (el_own rfl rfl) (flat0 rfl fun _ => rfl)) <| sq z283 (oAsO rfl rfl rfl rfl rfl) <| nl) ?_
      refine Unw.blk ?_
      refine Unw.seq ?_
      refine Go.r0 c283 rfl rfl (sq z283 (oMv rfl rfl) <| sq z283 (oBi rfl rfl rfl rfl) <| sq z283 (oAsI rfl rfl) <| nl) ?_
      refine Unw.nil ?_
      cases h
      exact ⟨rfl, (by kernel_rfl)⟩
    · rw [if_neg hc3] at h
      refine Go.condF rfl (byF iDec hc3) ?_
      refine Go.exit ?_
      refine Unw.seqx ?_
      refine Unw.nil ?_
      cases h
      exact ⟨rfl, (by kernel_rfl)⟩
  · rintro ⟨e, st⟩ hp
    obtain ⟨out_o3_e0_4, rfl⟩ : ∃ y, y = o := ⟨o, rfl⟩
    obtain ⟨he, hst⟩ := hp
    obtain rfl : e = .exit 0 := he
    refine Unw.blkx ?_
    refine Unw.seq ?_
    refine Go.seq ?_
    refine Go.r1 c283 rfl rfl hst (sq z283 (oMv rfl rfl) <| sq z283 (oAsO rfl rfl rfl rfl rfl) <| nl) ?_
    refine Unw.seq ?_
    refine Go.ret (Unw.ret ?_)
    cases h
    exact Fin_ret (fin_of rfl rF283 rfl (by kernel_rfl))
theorem L_spec_l00Max {a_0 : Int} {b_1 : Int} {r : Int} (h : spec_l00Max a_0 b_1 = some r) : FL Try.prog cfg 258 [.im 2 false [.sc (.int .i64 a_0)], .im 2 false [.sc (.int .i64 b_1)]] = some ([(false, [.im 0 (.sc (.int .i64 r))])], []) := by
  unfold spec_l00Max at h
  refine FL_goS (A := [(0, .v false [.im 2 (.sc (.int .i64 a_0))]), (1, .v false [.im 2 (.sc (.int .i64 b_1))])]) (B := [(0, none), (1, none)]) (nt := 10) rfl rfl Try.func258 rfl rfl rfl rfl ?_
  refine Go.seq ?_
  refine Go.r0 c258 rfl rfl (sq z258 (oAsI rfl rfl) <| nl) ?_
  refine Unw.seq ?_
  refine Go.seq ?_
  refine Go.seq ?_
  refine Go.r0 c258 rfl rfl (sq z258 (oMv rfl rfl) <| sq z258 (oMv rfl rfl) <| sq z258 (oBi rfl rfl rfl rfl) <| nl) ?_
  refine Unw.seq ?_
  by_cases hc1 : a_0 > b_1
  · rw [if_pos hc1] at h
    refine Go.condT rfl (iDec.2 hc1) ?_
    refine Go.seq ?_
    refine Go.r0 c258 rfl rfl (sq z258 (oMv rfl rfl) <| sq z258 (oAsI rfl rfl) <| nl) ?_
    refine Unw.seq ?_
    refine Go.ret (Unw.ret ?_)
    cases h
    exact Fin_ret (fin_of rfl rF258 rfl (by kernel_rfl))
  · rw [if_neg hc1] at h
    refine Go.condF rfl (byF iDec hc1) ?_
    refine Go.skip ?_
    refine Unw.seq ?_
    refine Go.seq ?_
    refine Go.r0 c258 rfl rfl (sq z258 (oMv rfl rfl) <| sq z258 (oAsI rfl rfl) <| nl) ?_
    refine Unw.seq ?_
    refine Go.ret (Unw.ret ?_)
    cases h
    exact Fin_ret (fin_of rfl rF258 rfl (by kernel_rfl))
theorem L_spec_l30Apart {k_0 : S_Stock} {a_1 : (List Int)} {b_2 : (List Int)} {r : Bool} (h : spec_l30Apart k_0 a_1 b_2 = some r) : FL Try.prog cfg 271 [.im 2 false [.cp [.sc (.int .i64 k_0.Board), .sc (.int .i64 k_0.Wide), .sc (.int .i64 k_0.Least), .sc (.int .i64 k_0.Stagger)] 0], .im 2 false [.row 1 (List.map eI a_1)], .im 2 false [.row 1 (List.map eI b_2)]] = some ([(false, [.im 0 (.sc (.bool r))])], []) := by
  unfold spec_l30Apart at h
  refine FL_goS (A := [(0, .v false [.im 2 (.cp [.sc (.int .i64 k_0.Board), .sc (.int .i64 k_0.Wide), .sc (.int .i64 k_0.Least), .sc (.int .i64 k_0.Stagger)] 0)]), (1, .v false [.im 2 (.row 1 (List.map eI a_1))]), (2, .v false [.im 2 (.row 1 (List.map eI b_2))])]) (B := [(0, none), (1, none), (2, none)]) (nt := 62) rfl rfl Try.func271 rfl rfl rfl rfl ?_
  refine Go.seq ?_
  refine Go.r0 c271 rfl rfl (sq z271 (oAsI rfl rfl) <| nl) ?_
  refine Unw.seq ?_
  refine Go.seq ?_
  obtain ⟨x12, hx12, h⟩ := bs h
  refine Go.r0 c271 rfl rfl (sq z271 (oMv rfl rfl) <| sq z271 (oCr (xs := [.v false [.im 2 _]]) (vs := [(false, [.own 12 0 0])]) (v := .v false [.own 12 0 0]) (c := ⟨.sh, 0, _⟩) (cs := []) (L_spec_l30Joints hx12) (.inl rfl) rfl kF283_27 rfl (ppC rfl pp0) rfl rfl pb0 rfl rfl rfl) <| sq z271 (oAsO rfl rfl rfl rfl rfl) <| nl) ?_
  refine Unw.seq ?_
  refine Go.seq ?_
  obtain ⟨x14, hx14, h⟩ := bs h
  refine Go.r0 c271 rfl rfl (sq z271 (oMv rfl rfl) <| sq z271 (oCr (xs := [.v false [.im 2 _]]) (vs := [(false, [.own 14 0 0])]) (v := .v false [.own 14 0 0]) (c := ⟨.sh, 0, _⟩) (cs := []) (L_spec_l30Joints hx14) (.inl rfl) rfl kF283_27 rfl (ppC rfl pp0) rfl rfl pb0 rfl rfl rfl) <| sq z271 (oAsO rfl rfl rfl rfl rfl) <| nl) ?_
  refine Unw.seq ?_
  refine Go.seq ?_
  refine Go.r0 c271 rfl rfl (sq z271 (oAsI rfl rfl) <| nl) ?_
  refine Unw.seq ?_
  refine Go.seq ?_
  refine Go.r0 c271 rfl rfl (sq z271 (oAsI rfl rfl) <| nl) ?_
  refine Unw.seq ?_
  refine Go.seq ?_
  refine Go.block ?_
  obtain ⟨o, hl, h⟩ := bs h
  refine Go.lp c271 rfl _ (fun (s : (Int × Int)) => match s with | (i_9_l5, j_10_l5) => mk [(0, .v false [.im 2 (.cp [.sc (.int .i64 k_0.Board), .sc (.int .i64 k_0.Wide), .sc (.int .i64 k_0.Least), .sc (.int .i64 k_0.Stagger)] 0)]), (7, .v false [.own 7 0 0]), (8, .v false [.own 8 0 0]), (9, iv i_9_l5), (10, iv j_10_l5)] [(7, some ⟨0, 0, false, false, false, false, [⟨.sh, 0, 0, .row 1 (List.map eI x12)⟩]⟩), (8, some ⟨0, 0, false, false, false, false, [⟨.sh, 0, 0, .row 1 (List.map eI x14)⟩]⟩)]) (fun (o : (Unit ⊕ Bool)) (p : Ex × St) => match o with | (.inl _) => p.1 = .exit 0 ∧ p.2.norm ([], []) = mk [] [] | (.inr r2) => p.1 = .ret ∧ fin Try.prog cfg 271 Try.f271 [.im 2 false [.cp [.sc (.int .i64 k_0.Board), .sc (.int .i64 k_0.Wide), .sc (.int .i64 k_0.Least), .sc (.int .i64 k_0.Stagger)] 0], .im 2 false [.row 1 (List.map eI a_1)], .im 2 false [.row 1 (List.map eI b_2)]] p.2 = some ([(false, [.im 0 (.sc (.bool r2))])], [])) hl (by kernel_rfl) ?_ ?_ ?_
  · intro o p hp e
    rcases o with u | r2 <;> exact nomatch (hp.1.symm.trans e)
  · rintro ⟨i_9_l5, j_10_l5⟩ o h
    unfold spec_l30Apart_l5 at h
    dsimp only at h
    refine Go.seq ?_
    refine Go.seq ?_
    refine Go.rX c271 rfl rfl rfl (mk [(0, .v false [.im 2 (.cp [.sc (.int .i64 k_0.Board), .sc (.int .i64 k_0.Wide), .sc (.int .i64 k_0.Least), .sc (.int .i64 k_0.Stagger)] 0)]), (7, .v false [.own 7 0 0]), (8, .v false [.own 8 0 0]), (9, iv i_9_l5), (10, iv j_10_l5), (24, bv ((decide (i_9_l5 < (x12.length : Int))) && (decide (j_10_l5 < (x14.length : Int)))))] [(7, some ⟨0, 0, false, false, false, false, [⟨.sh, 0, 0, .row 1 (List.map eI x12)⟩]⟩), (8, some ⟨0, 0, false, false, false, false, [⟨.sh, 0, 0, .row 1 (List.map eI x14)⟩]⟩)]) ?_ ?_
    · by_cases hc9 : i_9_l5 < (x12.length : Int)
      · exact ⟨_, sq z271 (oMv rfl rfl) <| sq z271 (oMv rfl rfl) <| sq z271 (oLnO rfl rfl uF27 rfl rfl rfl (fun e => nomatch e)) <| sq z271 (oBi rfl rfl rfl rfl) <| sq z271 (oMv rfl rfl) <| sgT z271 rfl rfl (iDec.2 hc9) (oMv rfl rfl) <| sgT z271 rfl rfl (iDec.2 hc9) (oMv rfl rfl) <| sgT z271 rfl rfl (iDec.2 hc9) (oLnO rfl rfl uF27 rfl rfl rfl (fun e => nomatch e)) <| sgT z271 rfl rfl (iDec.2 hc9) (oBi rfl rfl rfl rfl) <| sq z271 (oPkT rfl rfl (iDec.2 hc9) rfl) <| nl, (Eq.trans (b := (fun t_24_m5 : Bool => mk [(0, .v false [.im 2 (.cp [.sc (.int .i64 k_0.Board), .sc (.int .i64 k_0.Wide), .sc (.int .i64 k_0.Least), .sc (.int .i64 k_0.Stagger)] 0)]), (7, .v false [.own 7 0 0]), (8, .v false [.own 8 0 0]), (9, iv i_9_l5), (10, iv j_10_l5), (24, bv t_24_m5)] [(7, some ⟨0, 0, false, false, false, false, [⟨.sh, 0, 0, .row 1 (List.map eI x12)⟩]⟩), (8, some ⟨0, 0, false, false, false, false, [⟨.sh, 0, 0, .row 1 (List.map eI x14)⟩]⟩)]) (decide (j_10_l5 < (x14.length : Int)))) (by kernel_rfl) (congrArg (fun t_24_m5 : Bool => mk [(0, .v false [.im 2 (.cp [.sc (.int .i64 k_0.Board), .sc (.int .i64 k_0.Wide), .sc (.int .i64 k_0.Least), .sc (.int .i64 k_0.Stagger)] 0)]), (7, .v false [.own 7 0 0]), (8, .v false [.own 8 0 0]), (9, iv i_9_l5), (10, iv j_10_l5), (24, bv t_24_m5)] [(7, some ⟨0, 0, false, false, false, false, [⟨.sh, 0, 0, .row 1 (List.map eI x12)⟩]⟩), (8, some ⟨0, 0, false, false, false, false, [⟨.sh, 0, 0, .row 1 (List.map eI x14)⟩]⟩)]) (by first | rfl | (simp [(iDec.2 hc9)]; done) | (simp [(iDec.2 hc9)]; omega))))⟩
      · exact ⟨_, sq z271 (oMv rfl rfl) <| sq z271 (oMv rfl rfl) <| sq z271 (oLnO rfl rfl uF27 rfl rfl rfl (fun e => nomatch e)) <| sq z271 (oBi rfl rfl rfl rfl) <| sq z271 (oMv rfl rfl) <| sgF rfl rfl (byF iDec hc9) rfl <| sgF rfl rfl (byF iDec hc9) rfl <| sgF rfl rfl (byF iDec hc9) rfl <| sgF rfl rfl (byF iDec hc9) rfl <| sq z271 (oPkF rfl rfl (byF iDec hc9) rfl) <| nl, (Eq.trans (b := (fun t_24_m5 : Bool => mk [(0, .v false [.im 2 (.cp [.sc (.int .i64 k_0.Board), .sc (.int .i64 k_0.Wide), .sc (.int .i64 k_0.Least), .sc (.int .i64 k_0.Stagger)] 0)]), (7, .v false [.own 7 0 0]), (8, .v false [.own 8 0 0]), (9, iv i_9_l5), (10, iv j_10_l5), (24, bv t_24_m5)] [(7, some ⟨0, 0, false, false, false, false, [⟨.sh, 0, 0, .row 1 (List.map eI x12)⟩]⟩), (8, some ⟨0, 0, false, false, false, false, [⟨.sh, 0, 0, .row 1 (List.map eI x14)⟩]⟩)]) false) (by kernel_rfl) (congrArg (fun t_24_m5 : Bool => mk [(0, .v false [.im 2 (.cp [.sc (.int .i64 k_0.Board), .sc (.int .i64 k_0.Wide), .sc (.int .i64 k_0.Least), .sc (.int .i64 k_0.Stagger)] 0)]), (7, .v false [.own 7 0 0]), (8, .v false [.own 8 0 0]), (9, iv i_9_l5), (10, iv j_10_l5), (24, bv t_24_m5)] [(7, some ⟨0, 0, false, false, false, false, [⟨.sh, 0, 0, .row 1 (List.map eI x12)⟩]⟩), (8, some ⟨0, 0, false, false, false, false, [⟨.sh, 0, 0, .row 1 (List.map eI x14)⟩]⟩)]) (by first | rfl | (simp [(byF iDec hc9)]; done) | (simp [(byF iDec hc9)]; omega))))⟩
    · refine Unw.seq ?_
      by_cases hc10 : (i_9_l5 < (x12.length : Int) ∧ j_10_l5 < (x14.length : Int))
      · rw [if_pos hc10] at h
        refine Go.condT rfl ((iAnd iDec iDec).2 hc10) ?_
        refine Go.skip ?_
        refine Unw.seq ?_
        refine Go.block ?_
        refine Go.seq ?_
        refine Go.seq ?_
        obtain ⟨x27, hx27, h⟩ := bs h
        obtain ⟨x31, hx31, h⟩ := bs h
        obtain ⟨x36, hx36, h⟩ := bs h
        obtain ⟨x40, hx40, h⟩ := bs h
        obtain ⟨x43, hx43, h⟩ := bs h
        refine Go.dr c271 rfl rfl rfl rfl (mk [(0, .v false [.im 2 (.cp [.sc (.int .i64 k_0.Board), .sc (.int .i64 k_0.Wide), .sc (.int .i64 k_0.Least), .sc (.int .i64 k_0.Stagger)] 0)]), (7, .v false [.own 7 0 0]), (8, .v false [.own 8 0 0]), (9, iv i_9_l5), (10, iv j_10_l5), (48, bv (decide (x43 < k_0.Stagger)))] [(7, some ⟨0, 0, false, false, false, false, [⟨.sh, 0, 0, .row 1 (List.map eI x12)⟩]⟩), (8, some ⟨0, 0, false, false, false, false, [⟨.sh, 0, 0, .row 1 (List.map eI x14)⟩]⟩)]) (sT rfl (dN z271 rfl (oMv rfl rfl)) <| sT rfl (dN z271 rfl (oMv rfl rfl)) <| sT rfl (dN z271 rfl (oIAO rfl hx27 sF27 rfl rfl rfl rfl)) <| sT rfl (dN z271 rfl (oLdE (cs := [.im 0 _]) rfl tF2 rfl rfl rfl (fun e => nomatch e) (rd_get hx27) rfl rfl)) <| sT rfl (dN z271 rfl (oMv rfl rfl)) <| sT rfl (dN z271 rfl (oMv rfl rfl)) <| sT rfl (dN z271 rfl (oIAO rfl hx31 sF27 rfl rfl rfl rfl)) <| sT rfl (dN z271 rfl (oLdE (cs := [.im 0 _]) rfl tF2 rfl rfl rfl (fun e => nomatch e) (rd_get hx31) rfl rfl)) <| sT rfl (dN z271 rfl (oBi rfl rfl rfl rfl)) <| sT rfl (dN z271 rfl (oMv rfl rfl)) <| sT rfl (dN z271 rfl (oMv rfl rfl)) <| sT rfl (dN z271 rfl (oIAO rfl hx36 sF27 rfl rfl rfl rfl)) <| sT rfl (dN z271 rfl (oLdE (cs := [.im 0 _]) rfl tF2 rfl rfl rfl (fun e => nomatch e) (rd_get hx36) rfl rfl)) <| sT rfl (dN z271 rfl (oMv rfl rfl)) <| sT rfl (dN z271 rfl (oMv rfl rfl)) <| sT rfl (dN z271 rfl (oIAO rfl hx40 sF27 rfl rfl rfl rfl)) <| sT rfl (dN z271 rfl (oLdE (cs := [.im 0 _]) rfl tF2 rfl rfl rfl (fun e => nomatch e) (rd_get hx40) rfl rfl)) <| sT rfl (dN z271 rfl (oBi rfl rfl rfl rfl)) <| sT rfl (dN z271 rfl (oMv rfl rfl)) <| sT rfl (dN z271 rfl (oNl rfl rfl rfl)) <| sT rfl (dN z271 rfl (oFA (r' := .im 2 _) rfl fF101_3 rfl rfl)) <| sT rfl (dN z271 rfl (oLd (cs := [.im 2 _]) rfl tF2 rfl rfl)) <| sS (dN z271 rfl (oCa (xs := [.v false [.im 0 _], .v false [.im 0 _]]) (vs := [(false, [.im 0 _])]) (v := .v false [.im 0 _]) (L_spec_l00Max hx43) (.inl rfl) rfl kF258_2_2 rfl (ppC rfl (ppC rfl pp0)) rfl rfl pb0 rfl rfl rfl)) trivial (sT rfl (dN z271 rfl (oBi rfl rfl rfl rfl)) <| sD (by kernel_rfl))) ?_
        refine Unw.seq ?_
        by_cases hc11 : x43 < k_0.Stagger
        · rw [if_pos hc11] at h
          refine Go.condT rfl (iDec.2 hc11) ?_
          refine Go.seq ?_
          refine Go.r0 c271 rfl rfl (sq z271 (oAsI rfl rfl) <| nl) ?_
          refine Unw.seq ?_
          refine Go.ret (Unw.ret ?_)
          cases h
          exact ⟨rfl, (fin_of rfl rF271 rfl (by kernel_rfl))⟩
        · rw [if_neg hc11] at h
          refine Go.condF rfl (byF iDec hc11) ?_
          refine Go.skip ?_
          refine Unw.seq ?_
          refine Go.seq ?_
          obtain ⟨x51, hx51, h⟩ := bs h
          obtain ⟨x55, hx55, h⟩ := bs h
          refine Go.dr c271 rfl rfl rfl rfl (mk [(0, .v false [.im 2 (.cp [.sc (.int .i64 k_0.Board), .sc (.int .i64 k_0.Wide), .sc (.int .i64 k_0.Least), .sc (.int .i64 k_0.Stagger)] 0)]), (7, .v false [.own 7 0 0]), (8, .v false [.own 8 0 0]), (9, iv i_9_l5), (10, iv j_10_l5), (57, bv (decide (x51 < x55)))] [(7, some ⟨0, 0, false, false, false, false, [⟨.sh, 0, 0, .row 1 (List.map eI x12)⟩]⟩), (8, some ⟨0, 0, false, false, false, false, [⟨.sh, 0, 0, .row 1 (List.map eI x14)⟩]⟩)]) (sT rfl (dN z271 rfl (oMv rfl rfl)) <| sT rfl (dN z271 rfl (oMv rfl rfl)) <| sT rfl (dN z271 rfl (oIAO rfl hx51 sF27 rfl rfl rfl rfl)) <| sT rfl (dN z271 rfl (oLdE (cs := [.im 0 _]) rfl tF2 rfl rfl rfl (fun e => nomatch e) (rd_get hx51) rfl rfl)) <| sT rfl (dN z271 rfl (oMv rfl rfl)) <| sT rfl (dN z271 rfl (oMv rfl rfl)) <| sT rfl (dN z271 rfl (oIAO rfl hx55 sF27 rfl rfl rfl rfl)) <| sT rfl (dN z271 rfl (oLdE (cs := [.im 0 _]) rfl tF2 rfl rfl rfl (fun e => nomatch e) (rd_get hx55) rfl rfl)) <| sT rfl (dN z271 rfl (oBi rfl rfl rfl rfl)) <| sD (by kernel_rfl)) ?_
          refine Unw.seq ?_
          by_cases hc12 : x51 < x55
          · rw [if_pos hc12] at h
            refine Go.condT rfl (iDec.2 hc12) ?_
            refine Go.r0 c271 rfl rfl (sq z271 (oMv rfl rfl) <| sq z271 (oBi rfl rfl rfl rfl) <| sq z271 (oAsI rfl rfl) <| nl) ?_
            refine Unw.blk ?_
            refine Unw.nil ?_
            cases h
            exact ⟨rfl, (by kernel_rfl)⟩
          · rw [if_neg hc12] at h
            refine Go.condF rfl (byF iDec hc12) ?_
            refine Go.r0 c271 rfl rfl (sq z271 (oMv rfl rfl) <| sq z271 (oBi rfl rfl rfl rfl) <| sq z271 (oAsI rfl rfl) <| nl) ?_
            refine Unw.blk ?_
            refine Unw.nil ?_
            cases h
            exact ⟨rfl, (by kernel_rfl)⟩
      · rw [if_neg hc10] at h
        refine Go.condF rfl (byF (iAnd iDec iDec) hc10) ?_
        refine Go.exit ?_
        refine Unw.seqx ?_
        refine Unw.nil ?_
        cases h
        exact ⟨rfl, (by kernel_rfl)⟩
  · rintro ⟨e, st⟩ hp
    rcases o with u | r2
    · dsimp only at h
      obtain ⟨he, hst⟩ := hp
      obtain rfl : e = .exit 0 := he
      refine Unw.blkx ?_
      refine Unw.seq ?_
      refine Go.seq ?_
      refine Go.r1 c271 rfl rfl hst (sq z271 (oAsI rfl rfl) <| nl) ?_
      refine Unw.seq ?_
      refine Go.ret (Unw.ret ?_)
      cases h
      exact Fin_ret (fin_of rfl rF271 rfl (by kernel_rfl))
    · dsimp only at h
      obtain ⟨he, hfin⟩ := hp
      obtain rfl : e = .ret := he
      cases h
      exact Unw.ret (Fin_ret hfin)
theorem L_spec_GreedyFloor {r_0 : S_Room} {k_1 : S_Stock} {r : ((List Int) × Int)} (h : spec_GreedyFloor r_0 k_1 = some r) : FL Try.prog cfg 236 [.im 2 true [.sc (.int .i64 r_0.Width), .sc (.int .i64 r_0.Length)], .im 2 true [.sc (.int .i64 k_1.Board), .sc (.int .i64 k_1.Wide), .sc (.int .i64 k_1.Least), .sc (.int .i64 k_1.Stagger)]] = some ([(false, [.ow 0 1 (List.map eI r.1)]), (false, [.im 0 (.sc (.int .i64 r.2))])], []) := by
  unfold spec_GreedyFloor at h
  refine FL_goS (A := [(0, .v true [.im 2 (.sc (.int .i64 r_0.Width)), .im 2 (.sc (.int .i64 r_0.Length))]), (1, .v true [.im 2 (.sc (.int .i64 k_1.Board)), .im 2 (.sc (.int .i64 k_1.Wide)), .im 2 (.sc (.int .i64 k_1.Least)), .im 2 (.sc (.int .i64 k_1.Stagger))])]) (B := [(0, none), (1, none)]) (nt := 79) rfl rfl Try.func236 rfl rfl rfl rfl ?_
  refine Go.seq ?_
  refine Go.r0 c236 rfl rfl (sq z236 (oBx rfl tF99 rfl (tkI (tkI tk0))) <| sq z236 (oBx rfl tF101 rfl (tkI (tkI (tkI (tkI tk0))))) <| sq z236 (oAsN rfl rfl eF27) <| sq z236 (oAsI rfl rfl) <| nl) ?_
  refine Unw.seq ?_
  refine Go.seq ?_
  refine Go.seq ?_
  obtain ⟨x15, hx15, h⟩ := bs h
  refine Go.r0 c236 rfl rfl (sq z236 (oCa (xs := [.v false [.mp 2 0 0], .v false [.mp 3 0 0]]) (vs := [(false, [.im 0 _])]) (v := .v false [.im 0 _]) (L_spec_l30Ok hx15) (.inl rfl) rfl kF267_354_330 rfl (ppC rfl (ppC rfl pp0)) rfl rfl pb0 rfl rfl rfl) <| sq z236 (oUn rfl rfl rfl) <| nl) ?_
  refine Unw.seq ?_
  by_cases hc1 : x15 = true
  · rw [if_pos hc1] at h
    refine Go.condF rfl (nF (Iff.rfl.2 hc1)) ?_
    refine Go.skip ?_
    refine Unw.seq ?_
    refine Go.seq ?_
    obtain ⟨x17, hx17, h⟩ := bs h
    refine Go.r0 c236 rfl rfl (sq z236 (oCa (xs := [.v false [.mp 2 0 0], .v false [.mp 3 0 0]]) (vs := [(false, [.im 0 _])]) (v := .v false [.im 0 _]) (L_spec_l30Rows hx17) (.inl rfl) rfl kF268_354_330 rfl (ppC rfl (ppC rfl pp0)) rfl rfl pb0 rfl rfl rfl) <| sq z236 (oAsI rfl rfl) <| nl) ?_
    refine Unw.seq ?_
    refine Go.seq ?_
    refine Go.seq ?_
    refine Go.r0 c236 rfl rfl (sq z236 (oMv rfl rfl) <| sq z236 (oBi rfl rfl rfl rfl) <| nl) ?_
    refine Unw.seq ?_
    by_cases hc2 : x17 > 40
    · rw [if_pos hc2] at h
      refine Go.condT rfl (iDec.2 hc2) ?_
      refine Go.seq ?_
      refine Go.r0 c236 rfl rfl (sq z236 (oAsN rfl rfl eF27) <| sq z236 (oAsI rfl rfl) <| nl) ?_
      refine Unw.seq ?_
      refine Go.ret (Unw.ret ?_)
      cases h
      exact Fin_ret (fin_of rfl rF236 rfl (by kernel_rfl))
    · rw [if_neg hc2] at h
      refine Go.condF rfl (byF iDec hc2) ?_
      refine Go.skip ?_
      refine Unw.seq ?_
      refine Go.seq ?_
      refine Go.r0 c236 rfl rfl (sq z236 (oBS (es := List.map eI ([] : List Int)) rfl sF27 rfl pt0 (flat0 rfl fun _ => rfl)) <| sq z236 (oAsO rfl rfl rfl rfl rfl) <| nl) ?_
      refine Unw.seq ?_
      refine Go.seq ?_
      refine Go.r0 c236 rfl rfl (sq z236 (oBS (es := List.map eI ([] : List Int)) rfl sF27 rfl pt0 (flat0 rfl fun _ => rfl)) <| sq z236 (oAsO rfl rfl rfl rfl rfl) <| nl) ?_
      refine Unw.seq ?_
      refine Go.seq ?_
      refine Go.seq ?_
      refine Go.r0 c236 rfl rfl (sq z236 (oAsI rfl rfl) <| nl) ?_
      refine Unw.seq ?_
      refine Go.block ?_
      obtain ⟨o, hl, h⟩ := bs h
      refine Go.lp c236 rfl _ (fun (s : (Int × (List Int) × (List Int))) => match s with | (i_9_l9, out_o7_l9, last_o8_l9) => mk [(2, .v false [.mp 2 0 0]), (3, .v false [.mp 3 0 0]), (6, iv x17), (7, .v false [.own 7 0 0]), (8, .v false [.own 8 0 0]), (9, iv i_9_l9)] [(2, some ⟨0, 0, false, true, false, true, [⟨.imm, 0, 0, .sc (.int .i64 r_0.Width)⟩, ⟨.imm, 0, 0, .sc (.int .i64 r_0.Length)⟩]⟩), (3, some ⟨0, 0, false, true, false, true, [⟨.imm, 0, 0, .sc (.int .i64 k_1.Board)⟩, ⟨.imm, 0, 0, .sc (.int .i64 k_1.Wide)⟩, ⟨.imm, 0, 0, .sc (.int .i64 k_1.Least)⟩, ⟨.imm, 0, 0, .sc (.int .i64 k_1.Stagger)⟩]⟩), (7, some ⟨0, 0, false, false, false, false, [⟨.sh, 0, 0, .row 1 (List.map eI out_o7_l9)⟩]⟩), (8, some ⟨0, 0, false, false, false, false, [⟨.sh, 0, 0, .row 1 (List.map eI last_o8_l9)⟩]⟩)]) (fun (o : ((List Int) ⊕ ((List Int) × Int))) (p : Ex × St) => match o with | (.inl out_o7_e0_9) => p.1 = .exit 0 ∧ p.2.norm ([7], [7]) = mk [(7, .v false [.own 7 0 0])] [(7, some ⟨0, 0, false, false, false, false, [⟨.sh, 0, 0, .row 1 (List.map eI out_o7_e0_9)⟩]⟩)] | (.inr r2) => p.1 = .ret ∧ fin Try.prog cfg 236 Try.f236 [.im 2 true [.sc (.int .i64 r_0.Width), .sc (.int .i64 r_0.Length)], .im 2 true [.sc (.int .i64 k_1.Board), .sc (.int .i64 k_1.Wide), .sc (.int .i64 k_1.Least), .sc (.int .i64 k_1.Stagger)]] p.2 = some ([(false, [.ow 0 1 (List.map eI r2.1)]), (false, [.im 0 (.sc (.int .i64 r2.2))])], [])) hl (by kernel_rfl) ?_ ?_ ?_
      · intro o p hp e
        rcases o with out_o7_e0_9 | r2 <;> exact nomatch (hp.1.symm.trans e)
      · rintro ⟨i_9_l9, out_o7_l9, last_o8_l9⟩ o h
        unfold spec_GreedyFloor_l9 at h
        dsimp only at h
        refine Go.seq ?_
        refine Go.seq ?_
        refine Go.r0 c236 rfl rfl (sq z236 (oMv rfl rfl) <| sq z236 (oMv rfl rfl) <| sq z236 (oBi rfl rfl rfl rfl) <| nl) ?_
        refine Unw.seq ?_
        by_cases hc33 : i_9_l9 < x17
        · rw [if_pos hc33] at h
          refine Go.condT rfl (iDec.2 hc33) ?_
          refine Go.skip ?_
          refine Unw.seq ?_
          refine Go.seq ?_
          refine Go.block ?_
          refine Go.seq ?_
          refine Go.r0 c236 rfl rfl (sq z236 (oAsI rfl rfl) <| nl) ?_
          refine Unw.seq ?_
          refine Go.seq ?_
          obtain ⟨x28, hx28, h⟩ := bs h
          refine Go.r0 c236 rfl rfl (sq z236 (oMv rfl rfl) <| sq z236 (oCa (xs := [.v false [.mp 3 0 0], .v false [.own 8 0 0]]) (vs := [(false, [.im 0 _])]) (v := .v false [.im 0 _]) (L_spec_l30Left hx28) (.inl rfl) rfl kF269_330_27 rfl (ppC rfl (ppC rfl pp0)) rfl rfl pb0 rfl rfl rfl) <| sq z236 (oAsI rfl rfl) <| nl) ?_
          refine Unw.seq ?_
          refine Go.seq ?_
          obtain ⟨x31, hx31, h⟩ := bs h
          refine Go.r0 c236 rfl rfl (sq z236 (oMv rfl rfl) <| sq z236 (oCr (xs := [.v false [.mp 2 0 0], .v false [.mp 3 0 0], .v false [.im 0 _]]) (vs := [(false, [.own 31 0 0]), (false, [.im 0 _])]) (v := .tup [(false, [.own 31 0 0]), (false, [.im 0 _])]) (c := ⟨.sh, 0, _⟩) (cs := []) (L_spec_l30Pieces hx31) (.inl rfl) rfl kF270_354_330_2 rfl (ppC rfl (ppC rfl (ppC rfl pp0))) rfl rfl pb0 rfl rfl rfl) <| sq z236 (oMvT rfl rfl) <| sq z236 (oEx rfl rfl rfl) <| sq z236 (oEx rfl rfl rfl) <| sq z236 (oAsO rfl rfl rfl rfl rfl) <| sq z236 (oAsI rfl rfl) <| nl) ?_
          refine Unw.seq ?_
          refine Go.seq ?_
          refine Go.seq ?_
          obtain ⟨t_40_m14, hm58, h⟩ := bs h
          refine Go.rX c236 rfl rfl rfl (mk [(2, .v false [.mp 2 0 0]), (3, .v false [.mp 3 0 0]), (6, iv x17), (7, .v false [.own 7 0 0]), (8, .v false [.own 8 0 0]), (9, iv i_9_l9), (10, iv (-1)), (11, iv x28), (40, bv t_40_m14)] [(2, some ⟨0, 0, false, true, false, true, [⟨.imm, 0, 0, .sc (.int .i64 r_0.Width)⟩, ⟨.imm, 0, 0, .sc (.int .i64 r_0.Length)⟩]⟩), (3, some ⟨0, 0, false, true, false, true, [⟨.imm, 0, 0, .sc (.int .i64 k_1.Board)⟩, ⟨.imm, 0, 0, .sc (.int .i64 k_1.Wide)⟩, ⟨.imm, 0, 0, .sc (.int .i64 k_1.Least)⟩, ⟨.imm, 0, 0, .sc (.int .i64 k_1.Stagger)⟩]⟩), (7, some ⟨0, 0, false, false, false, false, [⟨.sh, 0, 0, .row 1 (List.map eI out_o7_l9)⟩]⟩), (8, some ⟨0, 0, false, false, false, false, [⟨.sh, 0, 0, .row 1 (List.map eI last_o8_l9)⟩]⟩)]) ?_ ?_
          · by_cases hc34 : x31.2 = 0
            · rw [if_pos hc34] at hm58
              obtain ⟨x39, hx39, hm58⟩ := bs hm58
              cases hm58
              exact ⟨_, sq z236 (oMv rfl rfl) <| sq z236 (oBi rfl rfl rfl rfl) <| sq z236 (oMv rfl rfl) <| sgT z236 rfl rfl (iEq.2 hc34) (oMv rfl rfl) <| sgT z236 rfl rfl (iEq.2 hc34) (oMv rfl rfl) <| sgT z236 rfl rfl (iEq.2 hc34) (oCa (xs := [.v false [.mp 3 0 0], .v false [.own 8 0 0], .v false [.own 12 0 0]]) (vs := [(false, [.im 0 _])]) (v := .v false [.im 0 _]) (L_spec_l30Apart hx39) (.inl rfl) rfl kF271_330_27_27 rfl (ppC rfl (ppC rfl (ppC rfl pp0))) rfl rfl pb0 rfl rfl rfl) <| sq z236 (oPkT rfl rfl (iEq.2 hc34) rfl) <| nl, (by kernel_rfl)⟩
            · rw [if_neg hc34] at hm58
              cases hm58
              exact ⟨_, sq z236 (oMv rfl rfl) <| sq z236 (oBi rfl rfl rfl rfl) <| sq z236 (oMv rfl rfl) <| sgF rfl rfl (byF iEq hc34) rfl <| sgF rfl rfl (byF iEq hc34) rfl <| sgF rfl rfl (byF iEq hc34) rfl <| sq z236 (oPkF rfl rfl (byF iEq hc34) rfl) <| nl, (by kernel_rfl)⟩
          · refine Unw.seq ?_
            refine Go.join (fun st => ∃ best_10_r16, spec_GreedyFloor_k16 i_9_l9 k_1 last_o8_l9 out_o7_l9 r_0 best_10_r16 = some o ∧ st.norm ([2, 3, 6, 7, 8, 9, 10], [2, 3, 7, 8]) = mk [(2, .v false [.mp 2 0 0]), (3, .v false [.mp 3 0 0]), (6, iv x17), (7, .v false [.own 7 0 0]), (8, .v false [.own 8 0 0]), (9, iv i_9_l9), (10, iv best_10_r16)] [(2, some ⟨0, 0, false, true, false, true, [⟨.imm, 0, 0, .sc (.int .i64 r_0.Width)⟩, ⟨.imm, 0, 0, .sc (.int .i64 r_0.Length)⟩]⟩), (3, some ⟨0, 0, false, true, false, true, [⟨.imm, 0, 0, .sc (.int .i64 k_1.Board)⟩, ⟨.imm, 0, 0, .sc (.int .i64 k_1.Wide)⟩, ⟨.imm, 0, 0, .sc (.int .i64 k_1.Least)⟩, ⟨.imm, 0, 0, .sc (.int .i64 k_1.Stagger)⟩]⟩), (7, some ⟨0, 0, false, false, false, false, [⟨.sh, 0, 0, .row 1 (List.map eI out_o7_l9)⟩]⟩), (8, some ⟨0, 0, false, false, false, false, [⟨.sh, 0, 0, .row 1 (List.map eI last_o8_l9)⟩]⟩)]) ?_ ?_
            · rintro st ⟨best_10_r16, h, hst⟩
              unfold spec_GreedyFloor_k16 at h
              refine Unw.seq ?_
              refine Go.seq ?_
              refine Go.seq ?_
              refine Go.r1 c236 rfl rfl hst (sq z236 (oFA (r' := .mp 3 0 0) rfl fF101_0 rfl rfl) <| sq z236 (oLd (cs := [.im 0 _]) rfl tF2 rfl rfl) <| sq z236 (oAsI rfl rfl) <| nl) ?_
              refine Unw.seq ?_
              refine Go.block ?_
              obtain ⟨o, hl, h⟩ := bs h
              refine Go.lp c236 rfl _ (fun (s : (Int × Int)) => match s with | (best_10_l17, f_14_l17) => mk [(2, .v false [.mp 2 0 0]), (3, .v false [.mp 3 0 0]), (6, iv x17), (7, .v false [.own 7 0 0]), (8, .v false [.own 8 0 0]), (9, iv i_9_l9), (10, iv best_10_l17), (14, iv f_14_l17)] [(2, some ⟨0, 0, false, true, false, true, [⟨.imm, 0, 0, .sc (.int .i64 r_0.Width)⟩, ⟨.imm, 0, 0, .sc (.int .i64 r_0.Length)⟩]⟩), (3, some ⟨0, 0, false, true, false, true, [⟨.imm, 0, 0, .sc (.int .i64 k_1.Board)⟩, ⟨.imm, 0, 0, .sc (.int .i64 k_1.Wide)⟩, ⟨.imm, 0, 0, .sc (.int .i64 k_1.Least)⟩, ⟨.imm, 0, 0, .sc (.int .i64 k_1.Stagger)⟩]⟩), (7, some ⟨0, 0, false, false, false, false, [⟨.sh, 0, 0, .row 1 (List.map eI out_o7_l9)⟩]⟩), (8, some ⟨0, 0, false, false, false, false, [⟨.sh, 0, 0, .row 1 (List.map eI last_o8_l9)⟩]⟩)]) (fun (best_10_e2_17 : Int) (p : Ex × St) => p.1 = .exit 2 ∧ p.2.norm ([2, 3, 6, 7, 9, 10], [2, 3, 7]) = mk [(2, .v false [.mp 2 0 0]), (3, .v false [.mp 3 0 0]), (6, iv x17), (7, .v false [.own 7 0 0]), (9, iv i_9_l9), (10, iv best_10_e2_17)] [(2, some ⟨0, 0, false, true, false, true, [⟨.imm, 0, 0, .sc (.int .i64 r_0.Width)⟩, ⟨.imm, 0, 0, .sc (.int .i64 r_0.Length)⟩]⟩), (3, some ⟨0, 0, false, true, false, true, [⟨.imm, 0, 0, .sc (.int .i64 k_1.Board)⟩, ⟨.imm, 0, 0, .sc (.int .i64 k_1.Wide)⟩, ⟨.imm, 0, 0, .sc (.int .i64 k_1.Least)⟩, ⟨.imm, 0, 0, .sc (.int .i64 k_1.Stagger)⟩]⟩), (7, some ⟨0, 0, false, false, false, false, [⟨.sh, 0, 0, .row 1 (List.map eI out_o7_l9)⟩]⟩)]) hl (by kernel_rfl) ?_ ?_ ?_
              · intro o p hp e
                exact nomatch (hp.1.symm.trans e)
              · rintro ⟨best_10_l17, f_14_l17⟩ o h
                unfold spec_GreedyFloor_l17 at h
                dsimp only at h
                refine Go.seq ?_
                refine Go.seq ?_
                refine Go.rX c236 rfl rfl rfl (mk [(2, .v false [.mp 2 0 0]), (3, .v false [.mp 3 0 0]), (6, iv x17), (7, .v false [.own 7 0 0]), (8, .v false [.own 8 0 0]), (9, iv i_9_l9), (10, iv best_10_l17), (14, iv f_14_l17), (51, bv ((decide (f_14_l17 ≥ k_1.Least)) && (decide (best_10_l17 < 0))))] [(2, some ⟨0, 0, false, true, false, true, [⟨.imm, 0, 0, .sc (.int .i64 r_0.Width)⟩, ⟨.imm, 0, 0, .sc (.int .i64 r_0.Length)⟩]⟩), (3, some ⟨0, 0, false, true, false, true, [⟨.imm, 0, 0, .sc (.int .i64 k_1.Board)⟩, ⟨.imm, 0, 0, .sc (.int .i64 k_1.Wide)⟩, ⟨.imm, 0, 0, .sc (.int .i64 k_1.Least)⟩, ⟨.imm, 0, 0, .sc (.int .i64 k_1.Stagger)⟩]⟩), (7, some ⟨0, 0, false, false, false, false, [⟨.sh, 0, 0, .row 1 (List.map eI out_o7_l9)⟩]⟩), (8, some ⟨0, 0, false, false, false, false, [⟨.sh, 0, 0, .row 1 (List.map eI last_o8_l9)⟩]⟩)]) ?_ ?_
                · by_cases hc47 : f_14_l17 ≥ k_1.Least
                  · exact ⟨_, sq z236 (oMv rfl rfl) <| sq z236 (oFA (r' := .mp 3 0 2) rfl fF101_2 rfl rfl) <| sq z236 (oLd (cs := [.im 0 _]) rfl tF2 rfl rfl) <| sq z236 (oBi rfl rfl rfl rfl) <| sq z236 (oMv rfl rfl) <| sgT z236 rfl rfl (iDec.2 hc47) (oMv rfl rfl) <| sgT z236 rfl rfl (iDec.2 hc47) (oBi rfl rfl rfl rfl) <| sq z236 (oPkT rfl rfl (iDec.2 hc47) rfl) <| nl, (Eq.trans (b := (fun t_51_m17 : Bool => mk [(2, .v false [.mp 2 0 0]), (3, .v false [.mp 3 0 0]), (6, iv x17), (7, .v false [.own 7 0 0]), (8, .v false [.own 8 0 0]), (9, iv i_9_l9), (10, iv best_10_l17), (14, iv f_14_l17), (51, bv t_51_m17)] [(2, some ⟨0, 0, false, true, false, true, [⟨.imm, 0, 0, .sc (.int .i64 r_0.Width)⟩, ⟨.imm, 0, 0, .sc (.int .i64 r_0.Length)⟩]⟩), (3, some ⟨0, 0, false, true, false, true, [⟨.imm, 0, 0, .sc (.int .i64 k_1.Board)⟩, ⟨.imm, 0, 0, .sc (.int .i64 k_1.Wide)⟩, ⟨.imm, 0, 0, .sc (.int .i64 k_1.Least)⟩, ⟨.imm, 0, 0, .sc (.int .i64 k_1.Stagger)⟩]⟩), (7, some ⟨0, 0, false, false, false, false, [⟨.sh, 0, 0, .row 1 (List.map eI out_o7_l9)⟩]⟩), (8, some ⟨0, 0, false, false, false, false, [⟨.sh, 0, 0, .row 1 (List.map eI last_o8_l9)⟩]⟩)]) (decide (best_10_l17 < 0))) (by kernel_rfl) (congrArg (fun t_51_m17 : Bool => mk [(2, .v false [.mp 2 0 0]), (3, .v false [.mp 3 0 0]), (6, iv x17), (7, .v false [.own 7 0 0]), (8, .v false [.own 8 0 0]), (9, iv i_9_l9), (10, iv best_10_l17), (14, iv f_14_l17), (51, bv t_51_m17)] [(2, some ⟨0, 0, false, true, false, true, [⟨.imm, 0, 0, .sc (.int .i64 r_0.Width)⟩, ⟨.imm, 0, 0, .sc (.int .i64 r_0.Length)⟩]⟩), (3, some ⟨0, 0, false, true, false, true, [⟨.imm, 0, 0, .sc (.int .i64 k_1.Board)⟩, ⟨.imm, 0, 0, .sc (.int .i64 k_1.Wide)⟩, ⟨.imm, 0, 0, .sc (.int .i64 k_1.Least)⟩, ⟨.imm, 0, 0, .sc (.int .i64 k_1.Stagger)⟩]⟩), (7, some ⟨0, 0, false, false, false, false, [⟨.sh, 0, 0, .row 1 (List.map eI out_o7_l9)⟩]⟩), (8, some ⟨0, 0, false, false, false, false, [⟨.sh, 0, 0, .row 1 (List.map eI last_o8_l9)⟩]⟩)]) (by first | rfl | (simp [(iDec.2 hc47)]; done) | (simp [(iDec.2 hc47)]; omega))))⟩
                  · exact ⟨_, sq z236 (oMv rfl rfl) <| sq z236 (oFA (r' := .mp 3 0 2) rfl fF101_2 rfl rfl) <| sq z236 (oLd (cs := [.im 0 _]) rfl tF2 rfl rfl) <| sq z236 (oBi rfl rfl rfl rfl) <| sq z236 (oMv rfl rfl) <| sgF rfl rfl (byF iDec hc47) rfl <| sgF rfl rfl (byF iDec hc47) rfl <| sq z236 (oPkF rfl rfl (byF iDec hc47) rfl) <| nl, (Eq.trans (b := (fun t_51_m17 : Bool => mk [(2, .v false [.mp 2 0 0]), (3, .v false [.mp 3 0 0]), (6, iv x17), (7, .v false [.own 7 0 0]), (8, .v false [.own 8 0 0]), (9, iv i_9_l9), (10, iv best_10_l17), (14, iv f_14_l17), (51, bv t_51_m17)] [(2, some ⟨0, 0, false, true, false, true, [⟨.imm, 0, 0, .sc (.int .i64 r_0.Width)⟩, ⟨.imm, 0, 0, .sc (.int .i64 r_0.Length)⟩]⟩), (3, some ⟨0, 0, false, true, false, true, [⟨.imm, 0, 0, .sc (.int .i64 k_1.Board)⟩, ⟨.imm, 0, 0, .sc (.int .i64 k_1.Wide)⟩, ⟨.imm, 0, 0, .sc (.int .i64 k_1.Least)⟩, ⟨.imm, 0, 0, .sc (.int .i64 k_1.Stagger)⟩]⟩), (7, some ⟨0, 0, false, false, false, false, [⟨.sh, 0, 0, .row 1 (List.map eI out_o7_l9)⟩]⟩), (8, some ⟨0, 0, false, false, false, false, [⟨.sh, 0, 0, .row 1 (List.map eI last_o8_l9)⟩]⟩)]) false) (by kernel_rfl) (congrArg (fun t_51_m17 : Bool => mk [(2, .v false [.mp 2 0 0]), (3, .v false [.mp 3 0 0]), (6, iv x17), (7, .v false [.own 7 0 0]), (8, .v false [.own 8 0 0]), (9, iv i_9_l9), (10, iv best_10_l17), (14, iv f_14_l17), (51, bv t_51_m17)] [(2, some ⟨0, 0, false, true, false, true, [⟨.imm, 0, 0, .sc (.int .i64 r_0.Width)⟩, ⟨.imm, 0, 0, .sc (.int .i64 r_0.Length)⟩]⟩), (3, some ⟨0, 0, false, true, false, true, [⟨.imm, 0, 0, .sc (.int .i64 k_1.Board)⟩, ⟨.imm, 0, 0, .sc (.int .i64 k_1.Wide)⟩, ⟨.imm, 0, 0, .sc (.int .i64 k_1.Least)⟩, ⟨.imm, 0, 0, .sc (.int .i64 k_1.Stagger)⟩]⟩), (7, some ⟨0, 0, false, false, false, false, [⟨.sh, 0, 0, .row 1 (List.map eI out_o7_l9)⟩]⟩), (8, some ⟨0, 0, false, false, false, false, [⟨.sh, 0, 0, .row 1 (List.map eI last_o8_l9)⟩]⟩)]) (by first | rfl | (simp [(byF iDec hc47)]; done) | (simp [(byF iDec hc47)]; omega))))⟩
                · refine Unw.seq ?_
                  by_cases hc48 : (f_14_l17 ≥ k_1.Least ∧ best_10_l17 < 0)
                  · rw [if_pos hc48] at h
                    refine Go.condT rfl ((iAnd iDec iDec).2 hc48) ?_
                    refine Go.skip ?_
                    refine Unw.seq ?_
                    refine Go.seq ?_
                    refine Go.join (fun st => ∃ best_10_r18, spec_GreedyFloor_k18 f_14_l17 best_10_r18 = some o ∧ st.norm ([2, 3, 6, 7, 8, 9, 10, 14], [2, 3, 7, 8]) = mk [(2, .v false [.mp 2 0 0]), (3, .v false [.mp 3 0 0]), (6, iv x17), (7, .v false [.own 7 0 0]), (8, .v false [.own 8 0 0]), (9, iv i_9_l9), (10, iv best_10_r18), (14, iv f_14_l17)] [(2, some ⟨0, 0, false, true, false, true, [⟨.imm, 0, 0, .sc (.int .i64 r_0.Width)⟩, ⟨.imm, 0, 0, .sc (.int .i64 r_0.Length)⟩]⟩), (3, some ⟨0, 0, false, true, false, true, [⟨.imm, 0, 0, .sc (.int .i64 k_1.Board)⟩, ⟨.imm, 0, 0, .sc (.int .i64 k_1.Wide)⟩, ⟨.imm, 0, 0, .sc (.int .i64 k_1.Least)⟩, ⟨.imm, 0, 0, .sc (.int .i64 k_1.Stagger)⟩]⟩), (7, some ⟨0, 0, false, false, false, false, [⟨.sh, 0, 0, .row 1 (List.map eI out_o7_l9)⟩]⟩), (8, some ⟨0, 0, false, false, false, false, [⟨.sh, 0, 0, .row 1 (List.map eI last_o8_l9)⟩]⟩)]) ?_ ?_
                    · rintro st ⟨best_10_r18, h, hst⟩
                      unfold spec_GreedyFloor_k18 at h
                      refine Unw.seq ?_
                      refine Go.r1 c236 rfl rfl hst (sq z236 (oMv rfl rfl) <| sq z236 (oBi rfl rfl rfl rfl) <| sq z236 (oAsI rfl rfl) <| nl) ?_
                      refine Unw.nil ?_
                      cases h
                      exact ⟨rfl, (by kernel_rfl)⟩
                    · intro K52
                      refine Go.block ?_
                      refine Go.seq ?_
                      obtain ⟨x56, hx56, h⟩ := bs h
                      refine Go.r0 c236 rfl rfl (sq z236 (oMv rfl rfl) <| sq z236 (oCr (xs := [.v false [.mp 2 0 0], .v false [.mp 3 0 0], .v false [.im 0 _]]) (vs := [(false, [.own 56 0 0]), (false, [.im 0 _])]) (v := .tup [(false, [.own 56 0 0]), (false, [.im 0 _])]) (c := ⟨.sh, 0, _⟩) (cs := []) (L_spec_l30Pieces hx56) (.inl rfl) rfl kF270_354_330_2 rfl (ppC rfl (ppC rfl (ppC rfl pp0))) rfl rfl pb0 rfl rfl rfl) <| sq z236 (oMvT rfl rfl) <| sq z236 (oEx rfl rfl rfl) <| sq z236 (oEx rfl rfl rfl) <| sq z236 (oAsO rfl rfl rfl rfl rfl) <| sq z236 (oAsI rfl rfl) <| nl) ?_
                      refine Unw.seq ?_
                      refine Go.seq ?_
                      obtain ⟨t_65_m20, hm55, h⟩ := bs h
                      refine Go.rX c236 rfl rfl rfl (mk [(2, .v false [.mp 2 0 0]), (3, .v false [.mp 3 0 0]), (6, iv x17), (7, .v false [.own 7 0 0]), (8, .v false [.own 8 0 0]), (9, iv i_9_l9), (10, iv best_10_l17), (14, iv f_14_l17), (65, bv t_65_m20)] [(2, some ⟨0, 0, false, true, false, true, [⟨.imm, 0, 0, .sc (.int .i64 r_0.Width)⟩, ⟨.imm, 0, 0, .sc (.int .i64 r_0.Length)⟩]⟩), (3, some ⟨0, 0, false, true, false, true, [⟨.imm, 0, 0, .sc (.int .i64 k_1.Board)⟩, ⟨.imm, 0, 0, .sc (.int .i64 k_1.Wide)⟩, ⟨.imm, 0, 0, .sc (.int .i64 k_1.Least)⟩, ⟨.imm, 0, 0, .sc (.int .i64 k_1.Stagger)⟩]⟩), (7, some ⟨0, 0, false, false, false, false, [⟨.sh, 0, 0, .row 1 (List.map eI out_o7_l9)⟩]⟩), (8, some ⟨0, 0, false, false, false, false, [⟨.sh, 0, 0, .row 1 (List.map eI last_o8_l9)⟩]⟩)]) ?_ ?_
                      · by_cases hc53 : x56.2 = 0
                        · rw [if_pos hc53] at hm55
                          obtain ⟨x64, hx64, hm55⟩ := bs hm55
                          cases hm55
                          exact ⟨_, sq z236 (oMv rfl rfl) <| sq z236 (oBi rfl rfl rfl rfl) <| sq z236 (oMv rfl rfl) <| sgT z236 rfl rfl (iEq.2 hc53) (oMv rfl rfl) <| sgT z236 rfl rfl (iEq.2 hc53) (oMv rfl rfl) <| sgT z236 rfl rfl (iEq.2 hc53) (oCa (xs := [.v false [.mp 3 0 0], .v false [.own 8 0 0], .v false [.own 12 0 0]]) (vs := [(false, [.im 0 _])]) (v := .v false [.im 0 _]) (L_spec_l30Apart hx64) (.inl rfl) rfl kF271_330_27_27 rfl (ppC rfl (ppC rfl (ppC rfl pp0))) rfl rfl pb0 rfl rfl rfl) <| sq z236 (oPkT rfl rfl (iEq.2 hc53) rfl) <| nl, (by kernel_rfl)⟩
                        · rw [if_neg hc53] at hm55
                          cases hm55
                          exact ⟨_, sq z236 (oMv rfl rfl) <| sq z236 (oBi rfl rfl rfl rfl) <| sq z236 (oMv rfl rfl) <| sgF rfl rfl (byF iEq hc53) rfl <| sgF rfl rfl (byF iEq hc53) rfl <| sgF rfl rfl (byF iEq hc53) rfl <| sq z236 (oPkF rfl rfl (byF iEq hc53) rfl) <| nl, (by kernel_rfl)⟩
                      · refine Unw.seq ?_
                        by_cases hc54 : t_65_m20 = true
                        · rw [if_pos hc54] at h
                          refine Go.condT rfl (Iff.rfl.2 hc54) ?_
                          refine Go.r0 c236 rfl rfl (sq z236 (oMv rfl rfl) <| sq z236 (oAsI rfl rfl) <| nl) ?_
                          refine Unw.blk ?_
                          exact K52 _ ⟨f_14_l17, h, (by kernel_rfl)⟩
                        · rw [if_neg hc54] at h
                          refine Go.condF rfl (byF Iff.rfl hc54) ?_
                          refine Go.skip ?_
                          refine Unw.blk ?_
                          exact K52 _ ⟨best_10_l17, h, (by kernel_rfl)⟩
                  · rw [if_neg hc48] at h
                    refine Go.condF rfl (byF (iAnd iDec iDec) hc48) ?_
                    refine Go.exit ?_
                    refine Unw.seqx ?_
                    refine Unw.nil ?_
                    cases h
                    exact ⟨rfl, (by kernel_rfl)⟩
              · rintro ⟨e, st⟩ hp
                obtain ⟨best_10_e2_17, rfl⟩ : ∃ y, y = o := ⟨o, rfl⟩
                obtain ⟨he, hst⟩ := hp
                obtain rfl : e = .exit 2 := he
                refine Unw.blkx ?_
                refine Unw.seq ?_
                refine Go.seq ?_
                refine Go.seq ?_
                refine Go.r1 c236 rfl rfl hst (sq z236 (oMv rfl rfl) <| sq z236 (oBi rfl rfl rfl rfl) <| nl) ?_
                refine Unw.seq ?_
                by_cases hc46 : best_10_e2_17 < 0
                · rw [if_pos hc46] at h
                  refine Go.condT rfl (iDec.2 hc46) ?_
                  refine Go.seq ?_
                  refine Go.r0 c236 rfl rfl (sq z236 (oAsN rfl rfl eF27) <| sq z236 (oAsI rfl rfl) <| nl) ?_
                  refine Unw.seq ?_
                  refine Go.ret (Unw.ret ?_)
                  cases h
                  exact ⟨rfl, (fin_of rfl rF236 rfl (by kernel_rfl))⟩
                · rw [if_neg hc46] at h
                  refine Go.condF rfl (byF iDec hc46) ?_
                  refine Go.skip ?_
                  refine Unw.seq ?_
                  refine Go.seq ?_
                  obtain ⟨x71, hx71, h⟩ := bs h
                  refine Go.r0 c236 rfl rfl (sq z236 (oMv rfl rfl) <| sq z236 (oCr (xs := [.v false [.mp 2 0 0], .v false [.mp 3 0 0], .v false [.im 0 _]]) (vs := [(false, [.own 71 0 0]), (false, [.im 0 _])]) (v := .tup [(false, [.own 71 0 0]), (false, [.im 0 _])]) (c := ⟨.sh, 0, _⟩) (cs := []) (L_spec_l30Pieces hx71) (.inl rfl) rfl kF270_354_330_2 rfl (ppC rfl (ppC rfl (ppC rfl pp0))) rfl rfl pb0 rfl rfl rfl) <| sq z236 (oMvT rfl rfl) <| sq z236 (oEx rfl rfl rfl) <| sq z236 (oEx rfl rfl rfl) <| sq z236 (oAsO rfl rfl rfl rfl rfl) <| nl) ?_
                  refine Unw.seq ?_
                  obtain ⟨x77, hx77, h⟩ := bs h
                  refine Go.r0 c236 rfl rfl (sq z236 (oMv rfl rfl) <| sq z236 (oMv rfl rfl) <| sq z236 (oBS (es := List.map eI ([best_10_e2_17] : List Int)) rfl sF27 rfl (ptC rfl (fxI fx0) rfl pt0) (flat0 rfl fun _ => rfl)) <| sq z236 (oApO (en := eI) (M := ([best_10_e2_17] : List Int)) rfl hx77 rfl sF27 rfl rfl uF27 (.inl ⟨_, rfl⟩) rfl rfl rfl rfl (el_own rfl rfl) (flat0 rfl fun _ => rfl)) <| sq z236 (oAsO rfl rfl rfl rfl rfl) <| nl) ?_
                  refine Unw.blk ?_
                  refine Unw.seq ?_
                  refine Go.r0 c236 rfl rfl (sq z236 (oMv rfl rfl) <| sq z236 (oBi rfl rfl rfl rfl) <| sq z236 (oAsI rfl rfl) <| nl) ?_
                  refine Unw.nil ?_
                  cases h
                  exact ⟨rfl, (by kernel_rfl)⟩
            · intro K56
              by_cases hc57 : t_40_m14 = true
              · rw [if_pos hc57] at h
                refine Go.condT rfl (Iff.rfl.2 hc57) ?_
                refine Go.r0 c236 rfl rfl (sq z236 (oMv rfl rfl) <| sq z236 (oAsI rfl rfl) <| nl) ?_
                exact K56 _ ⟨x28, h, (by kernel_rfl)⟩
              · rw [if_neg hc57] at h
                refine Go.condF rfl (byF Iff.rfl hc57) ?_
                refine Go.skip ?_
                exact K56 _ ⟨(-1), h, (by kernel_rfl)⟩
        · rw [if_neg hc33] at h
          refine Go.condF rfl (byF iDec hc33) ?_
          refine Go.exit ?_
          refine Unw.seqx ?_
          refine Unw.nil ?_
          cases h
          exact ⟨rfl, (by kernel_rfl)⟩
      · rintro ⟨e, st⟩ hp
        rcases o with out_o7_e0_9 | r2
        · dsimp only at h
          obtain ⟨he, hst⟩ := hp
          obtain rfl : e = .exit 0 := he
          refine Unw.blkx ?_
          refine Unw.seq ?_
          refine Go.seq ?_
          refine Go.r1 c236 rfl rfl hst (sq z236 (oMv rfl rfl) <| sq z236 (oAsO rfl rfl rfl rfl rfl) <| sq z236 (oAsI rfl rfl) <| nl) ?_
          refine Unw.seq ?_
          refine Go.ret (Unw.ret ?_)
          cases h
          exact Fin_ret (fin_of rfl rF236 rfl (by kernel_rfl))
        · dsimp only at h
          obtain ⟨he, hfin⟩ := hp
          obtain rfl : e = .ret := he
          cases h
          exact Unw.ret (Fin_ret hfin)
  · rw [if_neg hc1] at h
    refine Go.condT rfl (nT (byF Iff.rfl hc1)) ?_
    refine Go.seq ?_
    refine Go.r0 c236 rfl rfl (sq z236 (oAsN rfl rfl eF27) <| sq z236 (oAsI rfl rfl) <| nl) ?_
    refine Unw.seq ?_
    refine Go.ret (Unw.ret ?_)
    cases h
    exact Fin_ret (fin_of rfl rF236 rfl (by kernel_rfl))
theorem L_spec_l30DrawFirst {s_0 : S_l00Src} {k_1 : S_Stock} {r : (Int × S_l00Src)} (h : spec_l30DrawFirst s_0 k_1 = some r) : FL Try.prog cfg 237 [.ptr true [(.imm, .row 1 (List.map (eK .u8) s_0.code)), (.imm, .sc (.int .i64 s_0.at_)), (.imm, .sc (.int .u64 s_0.seed))], .im 2 false [.cp [.sc (.int .i64 k_1.Board), .sc (.int .i64 k_1.Wide), .sc (.int .i64 k_1.Least), .sc (.int .i64 k_1.Stagger)] 0]] = some ([(false, [.im 0 (.sc (.int .i64 r.1))])], [.ptr true [(.imm, .row 1 (List.map (eK .u8) r.2.code)), (.imm, .sc (.int .i64 r.2.at_)), (.imm, .sc (.int .u64 r.2.seed))]]) := by
  unfold spec_l30DrawFirst at h
  refine FL_goS (A := [(0, .v false [.mp 0 0 0]), (1, .v false [.im 2 (.cp [.sc (.int .i64 k_1.Board), .sc (.int .i64 k_1.Wide), .sc (.int .i64 k_1.Least), .sc (.int .i64 k_1.Stagger)] 0)])]) (B := [(0, some ⟨0, 0, true, true, false, true, [⟨.imm, 0, 1, .row 1 (List.map (eK .u8) s_0.code)⟩, ⟨.imm, 0, 0, .sc (.int .i64 s_0.at_)⟩, ⟨.imm, 0, 0, .sc (.int .u64 s_0.seed)⟩]⟩), (1, none)]) (nt := 40) rfl rfl Try.func237 rfl rfl rfl rfl ?_
  refine Go.seq ?_
  refine Go.r0 c237 rfl rfl (sq z237 (oAsI rfl rfl) <| nl) ?_
  refine Unw.seq ?_
  refine Go.seq ?_
  refine Go.seq ?_
  obtain ⟨x6, hx6, h⟩ := bs h
  refine Go.r0 c237 rfl rfl (sq z237 (oMv rfl rfl) <| sq z237 (oCa (xs := [.v false [.mp 0 0 0], .v false [.im 0 _]]) (vs := [(false, [.im 0 _])]) (v := .v false [.im 0 _]) (L_spec_l00Src_one hx6) (.inl rfl) rfl kF183_121_2 rfl (ppP rfl rfl rfl (ppC rfl pp0)) rfl rfl (pbP rfl rfl pb0) rfl rfl rfl) <| nl) ?_
  refine Unw.seq ?_
  by_cases hc1 : x6.1 = true
  · rw [if_pos hc1] at h
    refine Go.condT rfl (Iff.rfl.2 hc1) ?_
    refine Go.seq ?_
    obtain ⟨x27, hx27, h⟩ := bs h
    refine Go.dr c237 rfl rfl rfl (st1 := mk [(0, .v false [.mp 0 0 0]), (1, .v false [.im 2 (.cp [.sc (.int .i64 k_1.Board), .sc (.int .i64 k_1.Wide), .sc (.int .i64 k_1.Least), .sc (.int .i64 k_1.Stagger)] 0)])] [(0, some ⟨0, 0, true, true, false, true, [⟨.imm, 0, 1, .row 1 (List.map (eK .u8) x6.2.code)⟩, ⟨.imm, 0, 0, .sc (.int .i64 x6.2.at_)⟩, ⟨.imm, 0, 0, .sc (.int .u64 x6.2.seed)⟩]⟩)]) (by kernel_rfl) (mk [(4, iv x27.1)] [(0, some ⟨0, 0, true, true, false, true, [⟨.imm, 0, 1, .row 1 (List.map (eK .u8) x27.2.code)⟩, ⟨.imm, 0, 0, .sc (.int .i64 x27.2.at_)⟩, ⟨.imm, 0, 0, .sc (.int .u64 x27.2.seed)⟩]⟩)]) (sT rfl (dN z237 rfl (oMv rfl rfl)) <| sT rfl (dN z237 rfl (oMv rfl rfl)) <| sT rfl (dN z237 rfl (oNl rfl rfl rfl)) <| sT rfl (dN z237 rfl (oFA (r' := .im 2 _) rfl fF101_2 rfl rfl)) <| sT rfl (dN z237 rfl (oLd (cs := [.im 2 _]) rfl tF2 rfl rfl)) <| sT rfl (dN z237 rfl (oBi rfl rfl rfl rfl)) <| sT rfl (dN z237 rfl (oMv rfl rfl)) <| sT rfl (dN z237 rfl (oNl rfl rfl rfl)) <| sT rfl (dN z237 rfl (oFA (r' := .im 2 _) rfl fF101_2 rfl rfl)) <| sT rfl (dN z237 rfl (oLd (cs := [.im 2 _]) rfl tF2 rfl rfl)) <| sT rfl (dN z237 rfl (oMv rfl rfl)) <| sT rfl (dN z237 rfl (oNl rfl rfl rfl)) <| sT rfl (dN z237 rfl (oFA (r' := .im 2 _) rfl fF101_0 rfl rfl)) <| sT rfl (dN z237 rfl (oLd (cs := [.im 2 _]) rfl tF2 rfl rfl)) <| sT rfl (dN z237 rfl (oMv rfl rfl)) <| sT rfl (dN z237 rfl (oNl rfl rfl rfl)) <| sT rfl (dN z237 rfl (oFA (r' := .im 2 _) rfl fF101_0 rfl rfl)) <| sT rfl (dN z237 rfl (oLd (cs := [.im 2 _]) rfl tF2 rfl rfl)) <| sT rfl (dN z237 rfl (oBi rfl rfl rfl rfl)) <| sS (dN z237 rfl (oBS (es := List.map eI ([(w64 (k_1.Least - 1)), k_1.Least, k_1.Board, (w64 (k_1.Board + 1))] : List Int)) rfl sF27 rfl (ptC rfl (fxI fx0) rfl (ptC rfl (fxI fx0) rfl (ptC rfl (fxI fx0) rfl (ptC rfl (fxI fx0) rfl pt0)))) (flat0 rfl fun _ => rfl))) trivial (sS (dN z237 rfl (oCa (xs := [.v false [.mp 0 0 0], .v false [.own 26 0 0]]) (vs := [(false, [.im 0 _])]) (v := .v false [.im 0 _]) (L_spec_l00Src_among hx27) (.inl rfl) rfl kF99_121_27 rfl (ppP rfl rfl rfl (ppC rfl pp0)) rfl rfl (pbP rfl rfl pb0) rfl rfl rfl)) trivial (sS (dN z237 rfl (oAsI rfl rfl)) trivial (sD (by kernel_rfl))))) ?_
    refine Unw.seq ?_
    refine Go.ret (Unw.ret ?_)
    cases h
    exact Fin_ret (fin_of rfl rF237 rfl (by kernel_rfl))
  · rw [if_neg hc1] at h
    refine Go.condF rfl (byF Iff.rfl hc1) ?_
    refine Go.skip ?_
    refine Unw.seq ?_
    refine Go.seq ?_
    obtain ⟨x37, hx37, h⟩ := bs h
    obtain ⟨x38, hx38, h⟩ := bs h
    refine Go.dr c237 rfl rfl rfl (st1 := mk [(0, .v false [.mp 0 0 0]), (1, .v false [.im 2 (.cp [.sc (.int .i64 k_1.Board), .sc (.int .i64 k_1.Wide), .sc (.int .i64 k_1.Least), .sc (.int .i64 k_1.Stagger)] 0)])] [(0, some ⟨0, 0, true, true, false, true, [⟨.imm, 0, 1, .row 1 (List.map (eK .u8) x6.2.code)⟩, ⟨.imm, 0, 0, .sc (.int .i64 x6.2.at_)⟩, ⟨.imm, 0, 0, .sc (.int .u64 x6.2.seed)⟩]⟩)]) (by kernel_rfl) (mk [(4, iv (w64 (k_1.Board - x38.1)))] [(0, some ⟨0, 0, true, true, false, true, [⟨.imm, 0, 1, .row 1 (List.map (eK .u8) x38.2.code)⟩, ⟨.imm, 0, 0, .sc (.int .i64 x38.2.at_)⟩, ⟨.imm, 0, 0, .sc (.int .u64 x38.2.seed)⟩]⟩)]) (sT rfl (dN z237 rfl (oMv rfl rfl)) <| sT rfl (dN z237 rfl (oNl rfl rfl rfl)) <| sT rfl (dN z237 rfl (oFA (r' := .im 2 _) rfl fF101_0 rfl rfl)) <| sT rfl (dN z237 rfl (oLd (cs := [.im 2 _]) rfl tF2 rfl rfl)) <| sT rfl (dN z237 rfl (oMv rfl rfl)) <| sT rfl (dN z237 rfl (oMv rfl rfl)) <| sT rfl (dN z237 rfl (oNl rfl rfl rfl)) <| sT rfl (dN z237 rfl (oFA (r' := .im 2 _) rfl fF101_0 rfl rfl)) <| sT rfl (dN z237 rfl (oLd (cs := [.im 2 _]) rfl tF2 rfl rfl)) <| sS (dN z237 rfl (oCa (xs := [.v false [.im 0 _], .v false [.im 2 _]]) (vs := [(false, [.im 0 _])]) (v := .v false [.im 0 _]) (L_spec_l00Max hx37) (.inl rfl) rfl kF258_2_2 rfl (ppC rfl (ppC rfl pp0)) rfl rfl pb0 rfl rfl rfl)) trivial (sS (dN z237 rfl (oCa (xs := [.v false [.mp 0 0 0], .v false [.im 0 _]]) (vs := [(false, [.im 0 _])]) (v := .v false [.im 0 _]) (L_spec_l00Src_pick hx38) (.inl rfl) rfl kF184_121_2 rfl (ppP rfl rfl rfl (ppC rfl pp0)) rfl rfl (pbP rfl rfl pb0) rfl rfl rfl)) trivial (sT rfl (dN z237 rfl (oBi rfl rfl rfl rfl)) <| sS (dN z237 rfl (oAsI rfl rfl)) trivial (sD (by kernel_rfl))))) ?_
    refine Unw.seq ?_
    refine Go.ret (Unw.ret ?_)
    cases h
    exact Fin_ret (fin_of rfl rF237 rfl (by kernel_rfl))
theorem L_spec_l30DrawFloor {s_0 : S_l00Src} {r : (S_Room × S_Stock × (List Int) × S_l00Src)} (h : spec_l30DrawFloor s_0 = some r) : FL Try.prog cfg 166 [.ptr true [(.imm, .row 1 (List.map (eK .u8) s_0.code)), (.imm, .sc (.int .i64 s_0.at_)), (.imm, .sc (.int .u64 s_0.seed))]] = some ([(true, [.im 0 (.sc (.int .i64 r.1.Width)), .im 0 (.sc (.int .i64 r.1.Length))]), (true, [.im 0 (.sc (.int .i64 r.2.1.Board)), .im 0 (.sc (.int .i64 r.2.1.Wide)), .im 0 (.sc (.int .i64 r.2.1.Least)), .im 0 (.sc (.int .i64 r.2.1.Stagger))]), (false, [.ow 0 1 (List.map eI r.2.2.1)])], [.ptr true [(.imm, .row 1 (List.map (eK .u8) r.2.2.2.code)), (.imm, .sc (.int .i64 r.2.2.2.at_)), (.imm, .sc (.int .u64 r.2.2.2.seed))]]) := by
  unfold spec_l30DrawFloor at h
  refine FL_goS (A := [(0, .v false [.mp 0 0 0])]) (B := [(0, some ⟨0, 0, true, true, false, true, [⟨.imm, 0, 1, .row 1 (List.map (eK .u8) s_0.code)⟩, ⟨.imm, 0, 0, .sc (.int .i64 s_0.at_)⟩, ⟨.imm, 0, 0, .sc (.int .u64 s_0.seed)⟩]⟩)]) (nt := 44) rfl rfl Try.func166 rfl rfl rfl rfl ?_
  refine Go.seq ?_
  refine Go.r0 c166 rfl rfl (sq z166 (oAl rfl tF99 (tkI (tkI tk0))) <| sq z166 (oAl rfl tF101 (tkI (tkI (tkI (tkI tk0))))) <| sq z166 (oAsN rfl rfl eF27) <| nl) ?_
  refine Unw.seq ?_
  refine Go.seq ?_
  obtain ⟨x11, hx11, h⟩ := bs h
  refine Go.r0 c166 rfl rfl (sq z166 (oMv rfl rfl) <| sq z166 (oCa (xs := [.v false [.mp 0 0 0]]) (vs := [(true, [.im 0 _, .im 0 _])]) (v := .v true [.im 0 _, .im 0 _]) (L_spec_l30DrawRoom hx11) (.inl rfl) rfl kF156_121 rfl (ppP rfl rfl rfl pp0) rfl rfl (pbP rfl rfl pb0) rfl rfl rfl) <| sq z166 (oAl rfl tF99 (tkI (tkI tk0))) <| sq z166 (oSt tF99 rfl rfl rfl (tkI (tkI tk0)) rfl rfl rfl) <| nl) ?_
  refine Unw.seq ?_
  refine Go.seq ?_
  obtain ⟨x13, hx13, h⟩ := bs h
  refine Go.r1 c166 rfl rfl (st1 := mk [(0, .v false [.mp 0 0 0]), (2, .v false [.mp 2 0 0]), (3, .v false [.mp 3 0 0]), (5, .v false [.mp 5 0 0])] [(0, some ⟨0, 0, true, true, false, true, [⟨.imm, 0, 1, .row 1 (List.map (eK .u8) x11.2.code)⟩, ⟨.imm, 0, 0, .sc (.int .i64 x11.2.at_)⟩, ⟨.imm, 0, 0, .sc (.int .u64 x11.2.seed)⟩]⟩), (2, some ⟨0, 0, false, true, false, true, [⟨.imm, 0, 0, .sc (.int .i64 0)⟩, ⟨.imm, 0, 0, .sc (.int .i64 0)⟩]⟩), (3, some ⟨0, 0, false, true, false, true, [⟨.imm, 0, 0, .sc (.int .i64 0)⟩, ⟨.imm, 0, 0, .sc (.int .i64 0)⟩, ⟨.imm, 0, 0, .sc (.int .i64 0)⟩, ⟨.imm, 0, 0, .sc (.int .i64 0)⟩]⟩), (5, some ⟨0, 0, false, true, false, true, [⟨.imm, 0, 0, .sc (.int .i64 x11.1.Width)⟩, ⟨.imm, 0, 0, .sc (.int .i64 x11.1.Length)⟩]⟩)]) (by kernel_rfl) (sq z166 (oMv rfl rfl) <| sq z166 (oCa (xs := [.v false [.mp 0 0 0]]) (vs := [(true, [.im 0 _, .im 0 _, .im 0 _, .im 0 _])]) (v := .v true [.im 0 _, .im 0 _, .im 0 _, .im 0 _]) (L_spec_l30DrawStock hx13) (.inl rfl) rfl kF157_121 rfl (ppP rfl rfl rfl pp0) rfl rfl (pbP rfl rfl pb0) rfl rfl rfl) <| sq z166 (oAl rfl tF101 (tkI (tkI (tkI (tkI tk0))))) <| sq z166 (oSt tF101 rfl rfl rfl (tkI (tkI (tkI (tkI tk0)))) rfl rfl rfl) <| nl) ?_
  refine Unw.seq ?_
  refine Go.seq ?_
  obtain ⟨x17, hx17, h⟩ := bs h
  refine Go.r1 c166 rfl rfl (st1 := mk [(0, .v false [.mp 0 0 0]), (2, .v false [.mp 2 0 0]), (3, .v false [.mp 3 0 0]), (5, .v false [.mp 5 0 0]), (6, .v false [.mp 6 0 0])] [(0, some ⟨0, 0, true, true, false, true, [⟨.imm, 0, 1, .row 1 (List.map (eK .u8) x13.2.code)⟩, ⟨.imm, 0, 0, .sc (.int .i64 x13.2.at_)⟩, ⟨.imm, 0, 0, .sc (.int .u64 x13.2.seed)⟩]⟩), (2, some ⟨0, 0, false, true, false, true, [⟨.imm, 0, 0, .sc (.int .i64 0)⟩, ⟨.imm, 0, 0, .sc (.int .i64 0)⟩]⟩), (3, some ⟨0, 0, false, true, false, true, [⟨.imm, 0, 0, .sc (.int .i64 0)⟩, ⟨.imm, 0, 0, .sc (.int .i64 0)⟩, ⟨.imm, 0, 0, .sc (.int .i64 0)⟩, ⟨.imm, 0, 0, .sc (.int .i64 0)⟩]⟩), (5, some ⟨0, 0, false, true, false, true, [⟨.imm, 0, 0, .sc (.int .i64 x11.1.Width)⟩, ⟨.imm, 0, 0, .sc (.int .i64 x11.1.Length)⟩]⟩), (6, some ⟨0, 0, false, true, false, true, [⟨.imm, 0, 0, .sc (.int .i64 x13.1.Board)⟩, ⟨.imm, 0, 0, .sc (.int .i64 x13.1.Wide)⟩, ⟨.imm, 0, 0, .sc (.int .i64 x13.1.Least)⟩, ⟨.imm, 0, 0, .sc (.int .i64 x13.1.Stagger)⟩]⟩)]) (by kernel_rfl) (sq z166 (oLd (cs := [.im 0 _, .im 0 _]) rfl tF99 rfl rfl) <| sq z166 (oLd (cs := [.im 0 _, .im 0 _, .im 0 _, .im 0 _]) rfl tF101 rfl rfl) <| sq z166 (oCr (xs := [.v true [.im 0 _, .im 0 _], .v true [.im 0 _, .im 0 _, .im 0 _, .im 0 _]]) (vs := [(false, [.own 17 0 0]), (false, [.im 0 _])]) (v := .tup [(false, [.own 17 0 0]), (false, [.im 0 _])]) (c := ⟨.sh, 0, _⟩) (cs := []) (L_spec_GreedyFloor hx17) (.inl rfl) rfl kF236_99_101 rfl (ppC rfl (ppC rfl pp0)) rfl rfl pb0 rfl rfl rfl) <| sq z166 (oMvT rfl rfl) <| sq z166 (oEx rfl rfl rfl) <| sq z166 (oEx rfl rfl rfl) <| sq z166 (oAsO rfl rfl rfl rfl rfl) <| sq z166 (oAsI rfl rfl) <| nl) ?_
  refine Unw.seq ?_
  refine Go.seq ?_
  refine Go.seq ?_
  refine Go.r0 c166 rfl rfl (sq z166 (oMv rfl rfl) <| sq z166 (oBi rfl rfl rfl rfl) <| nl) ?_
  refine Unw.seq ?_
  refine Go.join (fun st => ∃ firsts_o7_r6, spec_l30DrawFloor_k6 x11 x13 firsts_o7_r6 = some r ∧ st.norm ([0, 2, 3, 5, 6, 7], [0, 2, 3, 5, 6, 7]) = mk [(0, .v false [.mp 0 0 0]), (2, .v false [.mp 2 0 0]), (3, .v false [.mp 3 0 0]), (5, .v false [.mp 5 0 0]), (6, .v false [.mp 6 0 0]), (7, .v false [.own 7 0 0])] [(0, some ⟨0, 0, true, true, false, true, [⟨.imm, 0, 1, .row 1 (List.map (eK .u8) x13.2.code)⟩, ⟨.imm, 0, 0, .sc (.int .i64 x13.2.at_)⟩, ⟨.imm, 0, 0, .sc (.int .u64 x13.2.seed)⟩]⟩), (2, some ⟨0, 0, false, true, false, true, [⟨.imm, 0, 0, .sc (.int .i64 0)⟩, ⟨.imm, 0, 0, .sc (.int .i64 0)⟩]⟩), (3, some ⟨0, 0, false, true, false, true, [⟨.imm, 0, 0, .sc (.int .i64 0)⟩, ⟨.imm, 0, 0, .sc (.int .i64 0)⟩, ⟨.imm, 0, 0, .sc (.int .i64 0)⟩, ⟨.imm, 0, 0, .sc (.int .i64 0)⟩]⟩), (5, some ⟨0, 0, false, true, false, true, [⟨.imm, 0, 0, .sc (.int .i64 x11.1.Width)⟩, ⟨.imm, 0, 0, .sc (.int .i64 x11.1.Length)⟩]⟩), (6, some ⟨0, 0, false, true, false, true, [⟨.imm, 0, 0, .sc (.int .i64 x13.1.Board)⟩, ⟨.imm, 0, 0, .sc (.int .i64 x13.1.Wide)⟩, ⟨.imm, 0, 0, .sc (.int .i64 x13.1.Least)⟩, ⟨.imm, 0, 0, .sc (.int .i64 x13.1.Stagger)⟩]⟩), (7, some ⟨0, 0, false, false, false, false, [⟨.sh, 0, 0, .row 1 (List.map eI firsts_o7_r6)⟩]⟩)]) ?_ ?_
  · rintro st ⟨firsts_o7_r6, h, hst⟩
    unfold spec_l30DrawFloor_k6 at h
    refine Unw.seq ?_
    refine Go.seq ?_
    refine Go.seq ?_
    obtain ⟨⟨t_31_m6, s_o0_0_m6, s_o0_1_m6, s_o0_2_m6⟩, hm6, h⟩ := bs h
    dsimp only at h
    refine Go.rX c166 rfl rfl hst (mk [(0, .v false [.mp 0 0 0]), (2, .v false [.mp 2 0 0]), (3, .v false [.mp 3 0 0]), (5, .v false [.mp 5 0 0]), (6, .v false [.mp 6 0 0]), (7, .v false [.own 7 0 0]), (31, bv t_31_m6)] [(0, some ⟨0, 0, true, true, false, true, [⟨.imm, 0, 1, .row 1 (List.map (eK .u8) s_o0_0_m6)⟩, ⟨.imm, 0, 0, .sc (.int .i64 s_o0_1_m6)⟩, ⟨.imm, 0, 0, .sc (.int .u64 s_o0_2_m6)⟩]⟩), (2, some ⟨0, 0, false, true, false, true, [⟨.imm, 0, 0, .sc (.int .i64 0)⟩, ⟨.imm, 0, 0, .sc (.int .i64 0)⟩]⟩), (3, some ⟨0, 0, false, true, false, true, [⟨.imm, 0, 0, .sc (.int .i64 0)⟩, ⟨.imm, 0, 0, .sc (.int .i64 0)⟩, ⟨.imm, 0, 0, .sc (.int .i64 0)⟩, ⟨.imm, 0, 0, .sc (.int .i64 0)⟩]⟩), (5, some ⟨0, 0, false, true, false, true, [⟨.imm, 0, 0, .sc (.int .i64 x11.1.Width)⟩, ⟨.imm, 0, 0, .sc (.int .i64 x11.1.Length)⟩]⟩), (6, some ⟨0, 0, false, true, false, true, [⟨.imm, 0, 0, .sc (.int .i64 x13.1.Board)⟩, ⟨.imm, 0, 0, .sc (.int .i64 x13.1.Wide)⟩, ⟨.imm, 0, 0, .sc (.int .i64 x13.1.Least)⟩, ⟨.imm, 0, 0, .sc (.int .i64 x13.1.Stagger)⟩]⟩), (7, some ⟨0, 0, false, false, false, false, [⟨.sh, 0, 0, .row 1 (List.map eI firsts_o7_r6)⟩]⟩)]) ?_ ?_
    · by_cases hc2 : (firsts_o7_r6.length : Int) > 0
      · rw [if_pos hc2] at hm6
        obtain ⟨x30, hx30, hm6⟩ := bs hm6
        cases hm6
        exact ⟨_, sq z166 (oMv rfl rfl) <| sq z166 (oLnO rfl rfl uF27 rfl rfl rfl (fun e => nomatch e)) <| sq z166 (oBi rfl rfl rfl rfl) <| sq z166 (oMv rfl rfl) <| sgT z166 rfl rfl (iDec.2 hc2) (oMv rfl rfl) <| sgT z166 rfl rfl (iDec.2 hc2) (oCa (xs := [.v false [.mp 0 0 0], .v false [.im 0 _]]) (vs := [(false, [.im 0 _])]) (v := .v false [.im 0 _]) (L_spec_l00Src_one hx30) (.inl rfl) rfl kF183_121_2 rfl (ppP rfl rfl rfl (ppC rfl pp0)) rfl rfl (pbP rfl rfl pb0) rfl rfl rfl) <| sq z166 (oPkT rfl rfl (iDec.2 hc2) rfl) <| nl, (by kernel_rfl)⟩
      · rw [if_neg hc2] at hm6
        cases hm6
        exact ⟨_, sq z166 (oMv rfl rfl) <| sq z166 (oLnO rfl rfl uF27 rfl rfl rfl (fun e => nomatch e)) <| sq z166 (oBi rfl rfl rfl rfl) <| sq z166 (oMv rfl rfl) <| sgF rfl rfl (byF iDec hc2) rfl <| sgF rfl rfl (byF iDec hc2) rfl <| sq z166 (oPkF rfl rfl (byF iDec hc2) rfl) <| nl, (by kernel_rfl)⟩
    · refine Unw.seq ?_
      refine Go.join (fun st => ∃ s_o0_0_r9, ∃ s_o0_1_r9, ∃ s_o0_2_r9, ∃ firsts_o7_r9, spec_l30DrawFloor_k9 x11 x13 s_o0_0_r9 s_o0_1_r9 s_o0_2_r9 firsts_o7_r9 = some r ∧ st.norm ([2, 3, 5, 6, 7], [0, 2, 3, 5, 6, 7]) = mk [(2, .v false [.mp 2 0 0]), (3, .v false [.mp 3 0 0]), (5, .v false [.mp 5 0 0]), (6, .v false [.mp 6 0 0]), (7, .v false [.own 7 0 0])] [(0, some ⟨0, 0, true, true, false, true, [⟨.imm, 0, 1, .row 1 (List.map (eK .u8) s_o0_0_r9)⟩, ⟨.imm, 0, 0, .sc (.int .i64 s_o0_1_r9)⟩, ⟨.imm, 0, 0, .sc (.int .u64 s_o0_2_r9)⟩]⟩), (2, some ⟨0, 0, false, true, false, true, [⟨.imm, 0, 0, .sc (.int .i64 0)⟩, ⟨.imm, 0, 0, .sc (.int .i64 0)⟩]⟩), (3, some ⟨0, 0, false, true, false, true, [⟨.imm, 0, 0, .sc (.int .i64 0)⟩, ⟨.imm, 0, 0, .sc (.int .i64 0)⟩, ⟨.imm, 0, 0, .sc (.int .i64 0)⟩, ⟨.imm, 0, 0, .sc (.int .i64 0)⟩]⟩), (5, some ⟨0, 0, false, true, false, true, [⟨.imm, 0, 0, .sc (.int .i64 x11.1.Width)⟩, ⟨.imm, 0, 0, .sc (.int .i64 x11.1.Length)⟩]⟩), (6, some ⟨0, 0, false, true, false, true, [⟨.imm, 0, 0, .sc (.int .i64 x13.1.Board)⟩, ⟨.imm, 0, 0, .sc (.int .i64 x13.1.Wide)⟩, ⟨.imm, 0, 0, .sc (.int .i64 x13.1.Least)⟩, ⟨.imm, 0, 0, .sc (.int .i64 x13.1.Stagger)⟩]⟩), (7, some ⟨0, 0, false, false, false, false, [⟨.sh, 0, 0, .row 1 (List.map eI firsts_o7_r9)⟩]⟩)]) ?_ ?_
      · rintro st ⟨s_o0_0_r9, s_o0_1_r9, s_o0_2_r9, firsts_o7_r9, h, hst⟩
        unfold spec_l30DrawFloor_k9 at h
        refine Unw.seq ?_
        refine Go.seq ?_
        refine Go.dr c166 rfl rfl rfl hst (mk [(2, .v false [.mp 2 0 0]), (3, .v false [.mp 3 0 0]), (4, .v false [.own 4 0 0])] [(0, some ⟨0, 0, true, true, false, true, [⟨.imm, 0, 1, .row 1 (List.map (eK .u8) s_o0_0_r9)⟩, ⟨.imm, 0, 0, .sc (.int .i64 s_o0_1_r9)⟩, ⟨.imm, 0, 0, .sc (.int .u64 s_o0_2_r9)⟩]⟩), (2, some ⟨0, 0, false, true, false, true, [⟨.imm, 0, 0, .sc (.int .i64 x11.1.Width)⟩, ⟨.imm, 0, 0, .sc (.int .i64 x11.1.Length)⟩]⟩), (3, some ⟨0, 0, false, true, false, true, [⟨.imm, 0, 0, .sc (.int .i64 x13.1.Board)⟩, ⟨.imm, 0, 0, .sc (.int .i64 x13.1.Wide)⟩, ⟨.imm, 0, 0, .sc (.int .i64 x13.1.Least)⟩, ⟨.imm, 0, 0, .sc (.int .i64 x13.1.Stagger)⟩]⟩), (4, some ⟨0, 0, false, false, false, false, [⟨.sh, 0, 0, .row 1 (List.map eI firsts_o7_r9)⟩]⟩)]) (sT rfl (dN z166 rfl (oLd (cs := [.im 0 _, .im 0 _]) rfl tF99 rfl rfl)) <| sT rfl (dN z166 rfl (oMv rfl rfl)) <| sF (dN z166 rfl (oLd (cs := [.im 0 _, .im 0 _, .im 0 _, .im 0 _]) rfl tF101 rfl rfl)) trivial (sS (dN z166 rfl (oSt tF99 rfl rfl rfl (tkI (tkI tk0)) rfl rfl rfl)) trivial (sS (dN z166 rfl (oSt tF101 rfl rfl rfl (tkI (tkI (tkI (tkI tk0)))) rfl rfl rfl)) trivial (sS (dN z166 rfl (oAsO rfl rfl rfl rfl rfl)) trivial (sD (by kernel_rfl))))) (sS (dN z166 rfl (oSt tF99 rfl rfl rfl (tkI (tkI tk0)) rfl rfl rfl)) trivial (sT rfl (dN z166 rfl (oLd (cs := [.im 0 _, .im 0 _, .im 0 _, .im 0 _]) rfl tF101 rfl rfl)) <| sS (dN z166 rfl (oSt tF101 rfl rfl rfl (tkI (tkI (tkI (tkI tk0)))) rfl rfl rfl)) trivial (sS (dN z166 rfl (oAsO rfl rfl rfl rfl rfl)) trivial (sD (by kernel_rfl)))))) ?_
        refine Unw.seq ?_
        refine Go.ret (Unw.ret ?_)
        cases h
        exact Fin_ret (fin_of rfl rF166 rfl (by kernel_rfl))
      · intro K4
        by_cases hc5 : t_31_m6 = true
        · rw [if_pos hc5] at h
          refine Go.condT rfl (Iff.rfl.2 hc5) ?_
          refine Go.seq ?_
          obtain ⟨x35, hx35, h⟩ := bs h
          refine Go.r0 c166 rfl rfl (sq z166 (oMv rfl rfl) <| sq z166 (oMv rfl rfl) <| sq z166 (oLnO rfl rfl uF27 rfl rfl rfl (fun e => nomatch e)) <| sq z166 (oCa (xs := [.v false [.mp 0 0 0], .v false [.im 0 _]]) (vs := [(false, [.im 0 _])]) (v := .v false [.im 0 _]) (L_spec_l00Src_pick hx35) (.inl rfl) rfl kF184_121_2 rfl (ppP rfl rfl rfl (ppC rfl pp0)) rfl rfl (pbP rfl rfl pb0) rfl rfl rfl) <| sq z166 (oAsI rfl rfl) <| nl) ?_
          refine Unw.seq ?_
          obtain ⟨x39, hx39, h⟩ := bs h
          obtain ⟨x40, hx40, h⟩ := bs h
          refine Go.r1 c166 rfl rfl (st1 := mk [(0, .v false [.mp 0 0 0]), (2, .v false [.mp 2 0 0]), (3, .v false [.mp 3 0 0]), (5, .v false [.mp 5 0 0]), (6, .v false [.mp 6 0 0]), (7, .v false [.own 7 0 0]), (9, iv x35.1)] [(0, some ⟨0, 0, true, true, false, true, [⟨.imm, 0, 1, .row 1 (List.map (eK .u8) x35.2.code)⟩, ⟨.imm, 0, 0, .sc (.int .i64 x35.2.at_)⟩, ⟨.imm, 0, 0, .sc (.int .u64 x35.2.seed)⟩]⟩), (2, some ⟨0, 0, false, true, false, true, [⟨.imm, 0, 0, .sc (.int .i64 0)⟩, ⟨.imm, 0, 0, .sc (.int .i64 0)⟩]⟩), (3, some ⟨0, 0, false, true, false, true, [⟨.imm, 0, 0, .sc (.int .i64 0)⟩, ⟨.imm, 0, 0, .sc (.int .i64 0)⟩, ⟨.imm, 0, 0, .sc (.int .i64 0)⟩, ⟨.imm, 0, 0, .sc (.int .i64 0)⟩]⟩), (5, some ⟨0, 0, false, true, false, true, [⟨.imm, 0, 0, .sc (.int .i64 x11.1.Width)⟩, ⟨.imm, 0, 0, .sc (.int .i64 x11.1.Length)⟩]⟩), (6, some ⟨0, 0, false, true, false, true, [⟨.imm, 0, 0, .sc (.int .i64 x13.1.Board)⟩, ⟨.imm, 0, 0, .sc (.int .i64 x13.1.Wide)⟩, ⟨.imm, 0, 0, .sc (.int .i64 x13.1.Least)⟩, ⟨.imm, 0, 0, .sc (.int .i64 x13.1.Stagger)⟩]⟩), (7, some ⟨0, 0, false, false, false, false, [⟨.sh, 0, 0, .row 1 (List.map eI firsts_o7_r6)⟩]⟩)]) (by kernel_rfl) (sq z166 (oMv rfl rfl) <| sq z166 (oMv rfl rfl) <| sq z166 (oMv rfl rfl) <| sq z166 (oCa (xs := [.v false [.mp 0 0 0], .v false [.mp 6 0 0]]) (vs := [(false, [.im 0 _])]) (v := .v false [.im 0 _]) (L_spec_l30DrawFirst hx39) (.inl rfl) rfl kF237_121_330 rfl (ppP rfl rfl rfl (ppC rfl pp0)) rfl rfl (pbP rfl rfl pb0) rfl rfl rfl) <| sq z166 (oIAO rfl hx40 sF27 rfl rfl rfl rfl) <| sq z166 (oStE (v' := x39.1) tF2 rfl rfl rfl (fxI fx0) rfl rfl (rd_get hx40) rfl) <| nl) ?_
          exact K4 _ ⟨x39.2.code, x39.2.at_, x39.2.seed, (firsts_o7_r6.set x35.1.toNat x39.1), h, (by kernel_rfl)⟩
        · rw [if_neg hc5] at h
          refine Go.condF rfl (byF Iff.rfl hc5) ?_
          refine Go.skip ?_
          exact K4 _ ⟨s_o0_0_m6, s_o0_1_m6, s_o0_2_m6, firsts_o7_r6, h, (by kernel_rfl)⟩
  · intro K7
    by_cases hc8 : x17.2 ≠ 0
    · rw [if_pos hc8] at h
      refine Go.condT rfl (iNe.2 hc8) ?_
      refine Go.r0 c166 rfl rfl (sq z166 (oFA (r' := .mp 6 0 0) rfl fF101_0 rfl rfl) <| sq z166 (oLd (cs := [.im 0 _]) rfl tF2 rfl rfl) <| sq z166 (oBS (es := List.map eI ([x13.1.Board] : List Int)) rfl sF27 rfl (ptC rfl (fxI fx0) rfl pt0) (flat0 rfl fun _ => rfl)) <| sq z166 (oAsO rfl rfl rfl rfl rfl) <| nl) ?_
      exact K7 _ ⟨([x13.1.Board] : List Int), h, (by kernel_rfl)⟩
    · rw [if_neg hc8] at h
      refine Go.condF rfl (byF iNe hc8) ?_
      refine Go.skip ?_
      exact K7 _ ⟨x17.1, h, (by kernel_rfl)⟩
theorem L_spec_DrawBoardsFor {code_0 : (List Int)} {r : (S_Room × S_Stock × (List Int))} (h : spec_DrawBoardsFor code_0 = some r) : FL Try.prog cfg 74 [.im 2 false [.row 1 (List.map (eK .u8) code_0)]] = some ([(true, [.im 0 (.sc (.int .i64 r.1.Width)), .im 0 (.sc (.int .i64 r.1.Length))]), (true, [.im 0 (.sc (.int .i64 r.2.1.Board)), .im 0 (.sc (.int .i64 r.2.1.Wide)), .im 0 (.sc (.int .i64 r.2.1.Least)), .im 0 (.sc (.int .i64 r.2.1.Stagger))]), (false, [.ow 0 1 (List.map eI r.2.2)])], []) := by
  unfold spec_DrawBoardsFor at h
  refine FL_goS (A := [(0, .v false [.im 2 (.row 1 (List.map (eK .u8) code_0))])]) (B := [(0, none)]) (nt := 13) rfl rfl Try.func74 rfl rfl rfl rfl ?_
  refine Go.seq ?_
  refine Go.r0 c74 rfl rfl (sq z74 (oAl rfl tF99 (tkI (tkI tk0))) <| sq z74 (oAl rfl tF101 (tkI (tkI (tkI (tkI tk0))))) <| sq z74 (oAsN rfl rfl eF27) <| nl) ?_
  refine Unw.seq ?_
  refine Go.seq ?_
  obtain ⟨x7, hx7, h⟩ := bs h
  refine Go.r0 c74 rfl rfl (sq z74 (oMv rfl rfl) <| sq z74 (oCp (xs := [.v false [.im 2 _]]) (L_spec_l00From hx7) (.inl rfl) rfl kF85_22 rfl (ppC rfl pp0) rfl rfl pb0 rfl) <| sq z74 (oAsP rfl rfl) <| nl) ?_
  refine Unw.seq ?_
  refine Go.seq ?_
  obtain ⟨x9, hx9, h⟩ := bs h
  refine Go.r0 c74 rfl rfl (sq z74 (oMv rfl rfl) <| sq z74 (oCr (xs := [.v false [.mp 7 0 0]]) (vs := [(true, [.im 0 _, .im 0 _]), (true, [.im 0 _, .im 0 _, .im 0 _, .im 0 _]), (false, [.own 9 0 0])]) (v := .tup [(true, [.im 0 _, .im 0 _]), (true, [.im 0 _, .im 0 _, .im 0 _, .im 0 _]), (false, [.own 9 0 0])]) (c := ⟨.sh, 0, _⟩) (cs := []) (L_spec_l30DrawFloor hx9) (.inl rfl) rfl kF166_121 rfl (ppP rfl rfl rfl pp0) rfl rfl (pbP rfl rfl pb0) rfl rfl rfl) <| sq z74 (oEx rfl rfl rfl) <| sq z74 (oEx rfl rfl rfl) <| sq z74 (oEx rfl rfl rfl) <| sq z74 (oSt tF99 rfl rfl rfl (tkI (tkI tk0)) rfl rfl rfl) <| sq z74 (oSt tF101 rfl rfl rfl (tkI (tkI (tkI (tkI tk0)))) rfl rfl rfl) <| sq z74 (oAsO rfl rfl rfl rfl rfl) <| nl) ?_
  refine Unw.seq ?_
  refine Go.ret (Unw.ret ?_)
  cases h
  exact Fin_ret (fin_of rfl rF74 rfl (by kernel_rfl))
theorem L_laws_FnFloors {code_0 : (List Int)} {more_1 : (List Int)} {r : Bool} (h : laws_FnFloors code_0 more_1 = some r) : FL Try.prog cfg 11 [.im 2 false [.row 1 (List.map (eK .u8) code_0)], .im 2 false [.row 1 (List.map (eK .u8) more_1)]] = some ([(false, [.im 0 (.sc (.bool r))])], []) := by
  unfold laws_FnFloors at h
  refine FL_goS (A := [(0, .v false [.im 2 (.row 1 (List.map (eK .u8) code_0))]), (1, .v false [.im 2 (.row 1 (List.map (eK .u8) more_1))])]) (B := [(0, none), (1, none)]) (nt := 145) rfl rfl Try.func11 rfl rfl rfl rfl ?_
  refine Go.seq ?_
  refine Go.r0 c11 rfl rfl (sq z11 (oAsI rfl rfl) <| nl) ?_
  refine Unw.seq ?_
  refine Go.seq ?_
  refine Go.seq ?_
  obtain ⟨x24, hx24, h⟩ := bs h
  obtain ⟨t_28_m1, hm25, h⟩ := bs h
  refine Go.rX c11 rfl rfl rfl (mk [(0, .v false [.im 2 (.row 1 (List.map (eK .u8) code_0))]), (1, .v false [.im 2 (.row 1 (List.map (eK .u8) more_1))]), (28, bv t_28_m1)] []) ?_ ?_
  · by_cases hc1 : x24 = true
    · rw [if_pos hc1] at hm25
      cases hm25
      exact ⟨_, sq z11 (oMv rfl rfl) <| sq z11 (oCa (xs := [.v false [.im 2 _]]) (vs := [(false, [.im 0 _])]) (v := .v false [.im 0 _]) (L_laws_b10Long hx24) (.inl rfl) rfl kF14_22 rfl (ppC rfl pp0) rfl rfl pb0 rfl rfl rfl) <| sq z11 (oMv rfl rfl) <| sgF rfl rfl (Iff.rfl.2 hc1) rfl <| sgF rfl rfl (Iff.rfl.2 hc1) rfl <| sq z11 (oPkT rfl rfl (Iff.rfl.2 hc1) rfl) <| nl, (by kernel_rfl)⟩
    · rw [if_neg hc1] at hm25
      obtain ⟨x27, hx27, hm25⟩ := bs hm25
      cases hm25
      exact ⟨_, sq z11 (oMv rfl rfl) <| sq z11 (oCa (xs := [.v false [.im 2 _]]) (vs := [(false, [.im 0 _])]) (v := .v false [.im 0 _]) (L_laws_b10Long hx24) (.inl rfl) rfl kF14_22 rfl (ppC rfl pp0) rfl rfl pb0 rfl rfl rfl) <| sq z11 (oMv rfl rfl) <| sgT z11 rfl rfl (byF Iff.rfl hc1) (oMv rfl rfl) <| sgT z11 rfl rfl (byF Iff.rfl hc1) (oCa (xs := [.v false [.im 2 _]]) (vs := [(false, [.im 0 _])]) (v := .v false [.im 0 _]) (L_laws_b10Long hx27) (.inl rfl) rfl kF14_22 rfl (ppC rfl pp0) rfl rfl pb0 rfl rfl rfl) <| sq z11 (oPkF rfl rfl (byF Iff.rfl hc1) rfl) <| nl, (by kernel_rfl)⟩
  · refine Unw.seq ?_
    by_cases hc2 : t_28_m1 = true
    · rw [if_pos hc2] at h
      refine Go.condT rfl (Iff.rfl.2 hc2) ?_
      refine Go.seq ?_
      refine Go.r0 c11 rfl rfl (sq z11 (oAsI rfl rfl) <| nl) ?_
      refine Unw.seq ?_
      refine Go.ret (Unw.ret ?_)
      cases h
      exact Fin_ret (fin_of rfl rF11 rfl (by kernel_rfl))
    · rw [if_neg hc2] at h
      refine Go.condF rfl (byF Iff.rfl hc2) ?_
      refine Go.skip ?_
      refine Unw.seq ?_
      refine Go.seq ?_
      obtain ⟨x31, hx31, h⟩ := bs h
      refine Go.r0 c11 rfl rfl (sq z11 (oMv rfl rfl) <| sq z11 (oCa (xs := [.v false [.im 2 _]]) (vs := [(true, [.im 0 _, .im 0 _]), (true, [.im 0 _, .im 0 _, .im 0 _, .im 0 _]), (false, [.im 0 _]), (false, [.im 0 _])]) (v := .tup [(true, [.im 0 _, .im 0 _]), (true, [.im 0 _, .im 0 _, .im 0 _, .im 0 _]), (false, [.im 0 _]), (false, [.im 0 _])]) (L_spec_DrawBestFloor hx31) (.inl rfl) rfl kF68_22 rfl (ppC rfl pp0) rfl rfl pb0 rfl rfl rfl) <| sq z11 (oMvT rfl rfl) <| sq z11 (oEx rfl rfl rfl) <| sq z11 (oEx rfl rfl rfl) <| sq z11 (oEx rfl rfl rfl) <| sq z11 (oEx rfl rfl rfl) <| sq z11 (oAl rfl tF99 (tkI (tkI tk0))) <| sq z11 (oAl rfl tF101 (tkI (tkI (tkI (tkI tk0))))) <| sq z11 (oSt tF99 rfl rfl rfl (tkI (tkI tk0)) rfl rfl rfl) <| sq z11 (oSt tF101 rfl rfl rfl (tkI (tkI (tkI (tkI tk0)))) rfl rfl rfl) <| sq z11 (oAsI rfl rfl) <| sq z11 (oAsI rfl rfl) <| nl) ?_
      refine Unw.seq ?_
      refine Go.seq ?_
      obtain ⟨x41, hx41, h⟩ := bs h
      refine Go.r1 c11 rfl rfl (st1 := mk [(1, .v false [.im 2 (.row 1 (List.map (eK .u8) more_1))]), (5, .v false [.mp 5 0 0]), (6, .v false [.mp 6 0 0]), (7, iv x31.2.2.1), (8, iv x31.2.2.2)] [(5, some ⟨0, 0, false, true, false, true, [⟨.imm, 0, 0, .sc (.int .i64 x31.1.Width)⟩, ⟨.imm, 0, 0, .sc (.int .i64 x31.1.Length)⟩]⟩), (6, some ⟨0, 0, false, true, false, true, [⟨.imm, 0, 0, .sc (.int .i64 x31.2.1.Board)⟩, ⟨.imm, 0, 0, .sc (.int .i64 x31.2.1.Wide)⟩, ⟨.imm, 0, 0, .sc (.int .i64 x31.2.1.Least)⟩, ⟨.imm, 0, 0, .sc (.int .i64 x31.2.1.Stagger)⟩]⟩)]) (by kernel_rfl) (sq z11 (oLd (cs := [.im 0 _, .im 0 _]) rfl tF99 rfl rfl) <| sq z11 (oLd (cs := [.im 0 _, .im 0 _, .im 0 _, .im 0 _]) rfl tF101 rfl rfl) <| sq z11 (oMv rfl rfl) <| sq z11 (oMv rfl rfl) <| sq z11 (oCr (xs := [.v true [.im 0 _, .im 0 _], .v true [.im 0 _, .im 0 _, .im 0 _, .im 0 _], .v false [.im 0 _], .v false [.im 0 _]]) (vs := [(false, [.own 41 0 0]), (false, [.im 0 _]), (false, [.im 0 _])]) (v := .tup [(false, [.own 41 0 0]), (false, [.im 0 _]), (false, [.im 0 _])]) (c := ⟨.sh, 0, _⟩) (cs := []) (L_impl_BestFloor hx41) (.inl rfl) rfl kF69_99_101_2_2 rfl (ppC rfl (ppC rfl (ppC rfl (ppC rfl pp0)))) rfl rfl pb0 rfl rfl rfl) <| sq z11 (oMvT rfl rfl) <| sq z11 (oEx rfl rfl rfl) <| sq z11 (oEx rfl rfl rfl) <| sq z11 (oEx rfl rfl rfl) <| sq z11 (oAsO rfl rfl rfl rfl rfl) <| sq z11 (oAsI rfl rfl) <| sq z11 (oAsI rfl rfl) <| nl) ?_
      refine Unw.seq ?_
      refine Go.seq ?_
      obtain ⟨x48, hx48, h⟩ := bs h
      refine Go.r0 c11 rfl rfl (sq z11 (oLd (cs := [.im 0 _, .im 0 _]) rfl tF99 rfl rfl) <| sq z11 (oLd (cs := [.im 0 _, .im 0 _, .im 0 _, .im 0 _]) rfl tF101 rfl rfl) <| sq z11 (oCr (xs := [.v true [.im 0 _, .im 0 _], .v true [.im 0 _, .im 0 _, .im 0 _, .im 0 _]]) (vs := [(false, [.own 48 0 0]), (false, [.im 0 _])]) (v := .tup [(false, [.own 48 0 0]), (false, [.im 0 _])]) (c := ⟨.sh, 0, _⟩) (cs := []) (L_impl_GreedyFloor hx48) (.inl rfl) rfl kF70_99_101 rfl (ppC rfl (ppC rfl pp0)) rfl rfl pb0 rfl rfl rfl) <| sq z11 (oMvT rfl rfl) <| sq z11 (oEx rfl rfl rfl) <| sq z11 (oEx rfl rfl rfl) <| sq z11 (oAsO rfl rfl rfl rfl rfl) <| sq z11 (oAsI rfl rfl) <| nl) ?_
      refine Unw.seq ?_
      refine Go.seq ?_
      refine Go.seq ?_
      obtain ⟨t_59_m6, hm24, h⟩ := bs h
      refine Go.rX c11 rfl rfl rfl (mk [(1, .v false [.im 2 (.row 1 (List.map (eK .u8) more_1))]), (5, .v false [.mp 5 0 0]), (6, .v false [.mp 6 0 0]), (9, .v false [.own 9 0 0]), (10, iv x41.2.1), (11, iv x41.2.2), (59, bv t_59_m6)] [(5, some ⟨0, 0, false, true, false, true, [⟨.imm, 0, 0, .sc (.int .i64 x31.1.Width)⟩, ⟨.imm, 0, 0, .sc (.int .i64 x31.1.Length)⟩]⟩), (6, some ⟨0, 0, false, true, false, true, [⟨.imm, 0, 0, .sc (.int .i64 x31.2.1.Board)⟩, ⟨.imm, 0, 0, .sc (.int .i64 x31.2.1.Wide)⟩, ⟨.imm, 0, 0, .sc (.int .i64 x31.2.1.Least)⟩, ⟨.imm, 0, 0, .sc (.int .i64 x31.2.1.Stagger)⟩]⟩), (9, some ⟨0, 0, false, false, false, false, [⟨.sh, 0, 0, .row 1 (List.map eI x41.1)⟩]⟩)]) ?_ ?_
      · by_cases hc3 : x48.2 = 0
        · rw [if_pos hc3] at hm24
          obtain ⟨x57, hx57, hm24⟩ := bs hm24
          cases hm24
          exact ⟨_, sq z11 (oMv rfl rfl) <| sq z11 (oBi rfl rfl rfl rfl) <| sq z11 (oMv rfl rfl) <| sgT z11 rfl rfl (iEq.2 hc3) (oLd (cs := [.im 0 _, .im 0 _]) rfl tF99 rfl rfl) <| sgT z11 rfl rfl (iEq.2 hc3) (oLd (cs := [.im 0 _, .im 0 _, .im 0 _, .im 0 _]) rfl tF101 rfl rfl) <| sgT z11 rfl rfl (iEq.2 hc3) (oMv rfl rfl) <| sgT z11 rfl rfl (iEq.2 hc3) (oCa (xs := [.v true [.im 0 _, .im 0 _], .v true [.im 0 _, .im 0 _, .im 0 _, .im 0 _], .v false [.own 12 0 0]]) (vs := [(false, [.im 0 _])]) (v := .v false [.im 0 _]) (L_impl_IsFloor hx57) (.inl rfl) rfl kF71_99_101_27 rfl (ppC rfl (ppC rfl (ppC rfl pp0))) rfl rfl pb0 rfl rfl rfl) <| sgT z11 rfl rfl (iEq.2 hc3) (oUn rfl rfl rfl) <| sq z11 (oPkT rfl rfl (iEq.2 hc3) rfl) <| nl, (by kernel_rfl)⟩
        · rw [if_neg hc3] at hm24
          cases hm24
          exact ⟨_, sq z11 (oMv rfl rfl) <| sq z11 (oBi rfl rfl rfl rfl) <| sq z11 (oMv rfl rfl) <| sgF rfl rfl (byF iEq hc3) rfl <| sgF rfl rfl (byF iEq hc3) rfl <| sgF rfl rfl (byF iEq hc3) rfl <| sgF rfl rfl (byF iEq hc3) rfl <| sgF rfl rfl (byF iEq hc3) rfl <| sq z11 (oPkF rfl rfl (byF iEq hc3) rfl) <| nl, (by kernel_rfl)⟩
      · refine Unw.seq ?_
        by_cases hc4 : t_59_m6 = true
        · rw [if_pos hc4] at h
          refine Go.condT rfl (Iff.rfl.2 hc4) ?_
          refine Go.seq ?_
          refine Go.r0 c11 rfl rfl (sq z11 (oAsI rfl rfl) <| nl) ?_
          refine Unw.seq ?_
          refine Go.ret (Unw.ret ?_)
          cases h
          exact Fin_ret (fin_of rfl rF11 rfl (by kernel_rfl))
        · rw [if_neg hc4] at h
          refine Go.condF rfl (byF Iff.rfl hc4) ?_
          refine Go.skip ?_
          refine Unw.seq ?_
          refine Go.seq ?_
          refine Go.seq ?_
          refine Go.r0 c11 rfl rfl (sq z11 (oMv rfl rfl) <| sq z11 (oBi rfl rfl rfl rfl) <| nl) ?_
          refine Unw.seq ?_
          refine Go.join (fun st => laws_FnFloors_k13 more_1 = some r ∧ st.norm ([1], []) = mk [(1, .v false [.im 2 (.row 1 (List.map (eK .u8) more_1))])] []) ?_ ?_
          · rintro st ⟨h, hst⟩
            unfold laws_FnFloors_k13 at h
            refine Unw.seq ?_
            refine Go.seq ?_
            obtain ⟨x119, hx119, h⟩ := bs h
            refine Go.r1 c11 rfl rfl hst (sq z11 (oMv rfl rfl) <| sq z11 (oCr (xs := [.v false [.im 2 _]]) (vs := [(true, [.im 0 _, .im 0 _]), (true, [.im 0 _, .im 0 _, .im 0 _, .im 0 _]), (false, [.own 119 0 0])]) (v := .tup [(true, [.im 0 _, .im 0 _]), (true, [.im 0 _, .im 0 _, .im 0 _, .im 0 _]), (false, [.own 119 0 0])]) (c := ⟨.sh, 0, _⟩) (cs := []) (L_spec_DrawBoardsFor hx119) (.inl rfl) rfl kF74_22 rfl (ppC rfl pp0) rfl rfl pb0 rfl rfl rfl) <| sq z11 (oMvT rfl rfl) <| sq z11 (oEx rfl rfl rfl) <| sq z11 (oEx rfl rfl rfl) <| sq z11 (oEx rfl rfl rfl) <| sq z11 (oAl rfl tF99 (tkI (tkI tk0))) <| sq z11 (oAl rfl tF101 (tkI (tkI (tkI (tkI tk0))))) <| sq z11 (oSt tF99 rfl rfl rfl (tkI (tkI tk0)) rfl rfl rfl) <| sq z11 (oSt tF101 rfl rfl rfl (tkI (tkI (tkI (tkI tk0)))) rfl rfl rfl) <| sq z11 (oAsO rfl rfl rfl rfl rfl) <| nl) ?_
            refine Unw.seq ?_
            refine Go.seq ?_
            obtain ⟨x127, hx127, h⟩ := bs h
            refine Go.r1 c11 rfl rfl (st1 := mk [(18, .v false [.mp 18 0 0]), (19, .v false [.mp 19 0 0]), (20, .v false [.own 20 0 0])] [(18, some ⟨0, 0, false, true, false, true, [⟨.imm, 0, 0, .sc (.int .i64 x119.1.Width)⟩, ⟨.imm, 0, 0, .sc (.int .i64 x119.1.Length)⟩]⟩), (19, some ⟨0, 0, false, true, false, true, [⟨.imm, 0, 0, .sc (.int .i64 x119.2.1.Board)⟩, ⟨.imm, 0, 0, .sc (.int .i64 x119.2.1.Wide)⟩, ⟨.imm, 0, 0, .sc (.int .i64 x119.2.1.Least)⟩, ⟨.imm, 0, 0, .sc (.int .i64 x119.2.1.Stagger)⟩]⟩), (20, some ⟨0, 0, false, false, false, false, [⟨.sh, 0, 0, .row 1 (List.map eI x119.2.2)⟩]⟩)]) (by kernel_rfl) (sq z11 (oLd (cs := [.im 0 _, .im 0 _]) rfl tF99 rfl rfl) <| sq z11 (oLd (cs := [.im 0 _, .im 0 _, .im 0 _, .im 0 _]) rfl tF101 rfl rfl) <| sq z11 (oMv rfl rfl) <| sq z11 (oCa (xs := [.v true [.im 0 _, .im 0 _], .v true [.im 0 _, .im 0 _, .im 0 _, .im 0 _], .v false [.own 20 0 0]]) (vs := [(false, [.im 0 _]), (false, [.im 0 _])]) (v := .tup [(false, [.im 0 _]), (false, [.im 0 _])]) (L_impl_BoardsFor hx127) (.inl rfl) rfl kF72_99_101_27 rfl (ppC rfl (ppC rfl (ppC rfl pp0))) rfl rfl pb0 rfl rfl rfl) <| sq z11 (oMvT rfl rfl) <| sq z11 (oEx rfl rfl rfl) <| sq z11 (oEx rfl rfl rfl) <| sq z11 (oAsI rfl rfl) <| sq z11 (oAsI rfl rfl) <| nl) ?_
            refine Unw.seq ?_
            refine Go.seq ?_
            obtain ⟨x135, hx135, h⟩ := bs h
            refine Go.rX c11 rfl rfl rfl (mk [(4, bv (((x127.2 == 0) == x135) && ((x127.2 != 0) || (decide (x127.1 ≥ 1)))))] []) ?_ ?_
            · by_cases hc13 : (x127.2 == 0) = x135
              · by_cases hc14 : x127.2 ≠ 0
                · exact ⟨_, sq z11 (oMv rfl rfl) <| sq z11 (oBi rfl rfl rfl rfl) <| sq z11 (oLd (cs := [.im 0 _, .im 0 _]) rfl tF99 rfl rfl) <| sq z11 (oLd (cs := [.im 0 _, .im 0 _, .im 0 _, .im 0 _]) rfl tF101 rfl rfl) <| sq z11 (oMv rfl rfl) <| sq z11 (oCa (xs := [.v true [.im 0 _, .im 0 _], .v true [.im 0 _, .im 0 _, .im 0 _, .im 0 _], .v false [.own 20 0 0]]) (vs := [(false, [.im 0 _])]) (v := .v false [.im 0 _]) (L_impl_IsFloor hx135) (.inl rfl) rfl kF71_99_101_27 rfl (ppC rfl (ppC rfl (ppC rfl pp0))) rfl rfl pb0 rfl rfl rfl) <| sq z11 (oBiU rfl uF4 rfl rfl rfl) <| sq z11 (oMv rfl rfl) <| sgT z11 rfl rfl (iBe.2 hc13) (oMv rfl rfl) <| sgT z11 rfl rfl (iBe.2 hc13) (oBi rfl rfl rfl rfl) <| sgT z11 rfl rfl (iBe.2 hc13) (oMv rfl rfl) <| sgF rfl rfl (iNe.2 hc14) rfl <| sgF rfl rfl (iNe.2 hc14) rfl <| sgT z11 rfl rfl (iBe.2 hc13) (oPkT rfl rfl (iNe.2 hc14) rfl) <| sq z11 (oPkT rfl rfl (iBe.2 hc13) rfl) <| sq z11 (oAsI rfl rfl) <| nl, (Eq.trans (b := (fun t_4_m15 : Bool => mk [(4, bv t_4_m15)] []) true) (by kernel_rfl) (congrArg (fun t_4_m15 : Bool => mk [(4, bv t_4_m15)] []) (by first | rfl | (simp [(iBe.2 hc13), (iNe.2 hc14)]; done) | (simp [(iBe.2 hc13), (iNe.2 hc14)]; omega))))⟩
                · exact ⟨_, sq z11 (oMv rfl rfl) <| sq z11 (oBi rfl rfl rfl rfl) <| sq z11 (oLd (cs := [.im 0 _, .im 0 _]) rfl tF99 rfl rfl) <| sq z11 (oLd (cs := [.im 0 _, .im 0 _, .im 0 _, .im 0 _]) rfl tF101 rfl rfl) <| sq z11 (oMv rfl rfl) <| sq z11 (oCa (xs := [.v true [.im 0 _, .im 0 _], .v true [.im 0 _, .im 0 _, .im 0 _, .im 0 _], .v false [.own 20 0 0]]) (vs := [(false, [.im 0 _])]) (v := .v false [.im 0 _]) (L_impl_IsFloor hx135) (.inl rfl) rfl kF71_99_101_27 rfl (ppC rfl (ppC rfl (ppC rfl pp0))) rfl rfl pb0 rfl rfl rfl) <| sq z11 (oBiU rfl uF4 rfl rfl rfl) <| sq z11 (oMv rfl rfl) <| sgT z11 rfl rfl (iBe.2 hc13) (oMv rfl rfl) <| sgT z11 rfl rfl (iBe.2 hc13) (oBi rfl rfl rfl rfl) <| sgT z11 rfl rfl (iBe.2 hc13) (oMv rfl rfl) <| sgT z11 rfl rfl (byF iNe hc14) (oMv rfl rfl) <| sgT z11 rfl rfl (byF iNe hc14) (oBi rfl rfl rfl rfl) <| sgT z11 rfl rfl (iBe.2 hc13) (oPkF rfl rfl (byF iNe hc14) rfl) <| sq z11 (oPkT rfl rfl (iBe.2 hc13) rfl) <| sq z11 (oAsI rfl rfl) <| nl, (Eq.trans (b := (fun t_4_m15 : Bool => mk [(4, bv t_4_m15)] []) (decide (x127.1 ≥ 1))) (by kernel_rfl) (congrArg (fun t_4_m15 : Bool => mk [(4, bv t_4_m15)] []) (by first | rfl | (simp [(iBe.2 hc13), (byF iNe hc14)]; done) | (simp [(iBe.2 hc13), (byF iNe hc14)]; omega))))⟩
              · exact ⟨_, sq z11 (oMv rfl rfl) <| sq z11 (oBi rfl rfl rfl rfl) <| sq z11 (oLd (cs := [.im 0 _, .im 0 _]) rfl tF99 rfl rfl) <| sq z11 (oLd (cs := [.im 0 _, .im 0 _, .im 0 _, .im 0 _]) rfl tF101 rfl rfl) <| sq z11 (oMv rfl rfl) <| sq z11 (oCa (xs := [.v true [.im 0 _, .im 0 _], .v true [.im 0 _, .im 0 _, .im 0 _, .im 0 _], .v false [.own 20 0 0]]) (vs := [(false, [.im 0 _])]) (v := .v false [.im 0 _]) (L_impl_IsFloor hx135) (.inl rfl) rfl kF71_99_101_27 rfl (ppC rfl (ppC rfl (ppC rfl pp0))) rfl rfl pb0 rfl rfl rfl) <| sq z11 (oBiU rfl uF4 rfl rfl rfl) <| sq z11 (oMv rfl rfl) <| sgF rfl rfl (byF iBe hc13) rfl <| sgF rfl rfl (byF iBe hc13) rfl <| sgF rfl rfl (byF iBe hc13) rfl <| sgU rfl rfl rfl <| sgU rfl rfl rfl <| sgF rfl rfl (byF iBe hc13) rfl <| sq z11 (oPkF rfl rfl (byF iBe hc13) rfl) <| sq z11 (oAsI rfl rfl) <| nl, (Eq.trans (b := (fun t_4_m15 : Bool => mk [(4, bv t_4_m15)] []) false) (by kernel_rfl) (congrArg (fun t_4_m15 : Bool => mk [(4, bv t_4_m15)] []) (by first | rfl | (simp [(byF iBe hc13)]; done) | (simp [(byF iBe hc13)]; omega))))⟩
            · refine Unw.seq ?_
              refine Go.ret (Unw.ret ?_)
              cases h
              exact Fin_ret (fin_of rfl rF11 rfl (by kernel_rfl))
          · intro K15
            by_cases hc16 : x41.2.2 = 0
            · rw [if_pos hc16] at h
              refine Go.condT rfl (iEq.2 hc16) ?_
              refine Go.seq ?_
              obtain ⟨x66, hx66, h⟩ := bs h
              refine Go.r0 c11 rfl rfl (sq z11 (oLd (cs := [.im 0 _, .im 0 _]) rfl tF99 rfl rfl) <| sq z11 (oLd (cs := [.im 0 _, .im 0 _, .im 0 _, .im 0 _]) rfl tF101 rfl rfl) <| sq z11 (oMv rfl rfl) <| sq z11 (oCa (xs := [.v true [.im 0 _, .im 0 _], .v true [.im 0 _, .im 0 _, .im 0 _, .im 0 _], .v false [.own 9 0 0]]) (vs := [(false, [.im 0 _]), (false, [.im 0 _])]) (v := .tup [(false, [.im 0 _]), (false, [.im 0 _])]) (L_impl_BoardsFor hx66) (.inl rfl) rfl kF72_99_101_27 rfl (ppC rfl (ppC rfl (ppC rfl pp0))) rfl rfl pb0 rfl rfl rfl) <| sq z11 (oMvT rfl rfl) <| sq z11 (oEx rfl rfl rfl) <| sq z11 (oEx rfl rfl rfl) <| sq z11 (oAsI rfl rfl) <| sq z11 (oAsI rfl rfl) <| nl) ?_
              refine Unw.seq ?_
              refine Go.seq ?_
              obtain ⟨x73, hx73, h⟩ := bs h
              refine Go.r0 c11 rfl rfl (sq z11 (oLd (cs := [.im 0 _, .im 0 _]) rfl tF99 rfl rfl) <| sq z11 (oLd (cs := [.im 0 _, .im 0 _, .im 0 _, .im 0 _]) rfl tF101 rfl rfl) <| sq z11 (oMv rfl rfl) <| sq z11 (oCa (xs := [.v true [.im 0 _, .im 0 _], .v true [.im 0 _, .im 0 _, .im 0 _, .im 0 _], .v false [.own 9 0 0]]) (vs := [(false, [.im 0 _]), (false, [.im 0 _])]) (v := .tup [(false, [.im 0 _]), (false, [.im 0 _])]) (L_impl_WasteShare hx73) (.inl rfl) rfl kF73_99_101_27 rfl (ppC rfl (ppC rfl (ppC rfl pp0))) rfl rfl pb0 rfl rfl rfl) <| sq z11 (oMvT rfl rfl) <| sq z11 (oEx rfl rfl rfl) <| sq z11 (oEx rfl rfl rfl) <| sq z11 (oAsI rfl rfl) <| sq z11 (oAsI rfl rfl) <| nl) ?_
              refine Unw.seq ?_
              refine Go.seq ?_
              obtain ⟨x79, hx79, h⟩ := bs h
              refine Go.rX c11 rfl rfl rfl (mk [(1, .v false [.im 2 (.row 1 (List.map (eK .u8) more_1))]), (116, bv ((!x79) || ((x66.2 != 0) || ((x66.1 != x41.2.1) || ((x73.2 != 0) || ((decide (x73.1 < 0)) || ((decide (x73.1 > 999)) || (decide ((w64 ((w64 (x41.2.1 * x31.2.1.Board)) * x31.2.1.Wide)) < (w64 (x31.1.Width * x31.1.Length)))))))))))] []) ?_ ?_
              · by_cases hc17 : x79 = true
                · by_cases hc18 : x66.2 ≠ 0
                  · exact ⟨_, sq z11 (oLd (cs := [.im 0 _, .im 0 _]) rfl tF99 rfl rfl) <| sq z11 (oLd (cs := [.im 0 _, .im 0 _, .im 0 _, .im 0 _]) rfl tF101 rfl rfl) <| sq z11 (oMv rfl rfl) <| sq z11 (oCa (xs := [.v true [.im 0 _, .im 0 _], .v true [.im 0 _, .im 0 _, .im 0 _, .im 0 _], .v false [.own 9 0 0]]) (vs := [(false, [.im 0 _])]) (v := .v false [.im 0 _]) (L_impl_IsFloor hx79) (.inl rfl) rfl kF71_99_101_27 rfl (ppC rfl (ppC rfl (ppC rfl pp0))) rfl rfl pb0 rfl rfl rfl) <| sq z11 (oUn rfl rfl rfl) <| sq z11 (oMv rfl rfl) <| sgT z11 rfl rfl (nF (Iff.rfl.2 hc17)) (oMv rfl rfl) <| sgT z11 rfl rfl (nF (Iff.rfl.2 hc17)) (oBi rfl rfl rfl rfl) <| sq z11 (oPkF rfl rfl (nF (Iff.rfl.2 hc17)) rfl) <| sq z11 (oMv rfl rfl) <| sgF rfl rfl (iNe.2 hc18) rfl <| sgF rfl rfl (iNe.2 hc18) rfl <| sgF rfl rfl (iNe.2 hc18) rfl <| sq z11 (oPkT rfl rfl (iNe.2 hc18) rfl) <| sq z11 (oMv rfl rfl) <| sgF rfl rfl rfl rfl <| sgF rfl rfl rfl rfl <| sq z11 (oPkT rfl rfl rfl rfl) <| sq z11 (oMv rfl rfl) <| sgF rfl rfl rfl rfl <| sgF rfl rfl rfl rfl <| sq z11 (oPkT rfl rfl rfl rfl) <| sq z11 (oMv rfl rfl) <| sgF rfl rfl rfl rfl <| sgF rfl rfl rfl rfl <| sq z11 (oPkT rfl rfl rfl rfl) <| sq z11 (oMv rfl rfl) <| sgF rfl rfl rfl rfl <| sgF rfl rfl rfl rfl <| sgF rfl rfl rfl rfl <| sgF rfl rfl rfl rfl <| sgF rfl rfl rfl rfl <| sgF rfl rfl rfl rfl <| sgF rfl rfl rfl rfl <| sgF rfl rfl rfl rfl <| sgF rfl rfl rfl rfl <| sgF rfl rfl rfl rfl <| sgF rfl rfl rfl rfl <| sgF rfl rfl rfl rfl <| sgF rfl rfl rfl rfl <| sq z11 (oPkT rfl rfl rfl rfl) <| nl, (Eq.trans (b := (fun t_116_m11 : Bool => mk [(1, .v false [.im 2 (.row 1 (List.map (eK .u8) more_1))]), (116, bv t_116_m11)] []) true) (by kernel_rfl) (congrArg (fun t_116_m11 : Bool => mk [(1, .v false [.im 2 (.row 1 (List.map (eK .u8) more_1))]), (116, bv t_116_m11)] []) (by first | rfl | (simp [(Iff.rfl.2 hc17), (iNe.2 hc18)]; done) | (simp [(Iff.rfl.2 hc17), (iNe.2 hc18)]; omega))))⟩
                  · by_cases hc19 : x66.1 ≠ x41.2.1
                    · exact ⟨_, sq z11 (oLd (cs := [.im 0 _, .im 0 _]) rfl tF99 rfl rfl) <| sq z11 (oLd (cs := [.im 0 _, .im 0 _, .im 0 _, .im 0 _]) rfl tF101 rfl rfl) <| sq z11 (oMv rfl rfl) <| sq z11 (oCa (xs := [.v true [.im 0 _, .im 0 _], .v true [.im 0 _, .im 0 _, .im 0 _, .im 0 _], .v false [.own 9 0 0]]) (vs := [(false, [.im 0 _])]) (v := .v false [.im 0 _]) (L_impl_IsFloor hx79) (.inl rfl) rfl kF71_99_101_27 rfl (ppC rfl (ppC rfl (ppC rfl pp0))) rfl rfl pb0 rfl rfl rfl) <| sq z11 (oUn rfl rfl rfl) <| sq z11 (oMv rfl rfl) <| sgT z11 rfl rfl (nF (Iff.rfl.2 hc17)) (oMv rfl rfl) <| sgT z11 rfl rfl (nF (Iff.rfl.2 hc17)) (oBi rfl rfl rfl rfl) <| sq z11 (oPkF rfl rfl (nF (Iff.rfl.2 hc17)) rfl) <| sq z11 (oMv rfl rfl) <| sgT z11 rfl rfl (byF iNe hc18) (oMv rfl rfl) <| sgT z11 rfl rfl (byF iNe hc18) (oMv rfl rfl) <| sgT z11 rfl rfl (byF iNe hc18) (oBi rfl rfl rfl rfl) <| sq z11 (oPkF rfl rfl (byF iNe hc18) rfl) <| sq z11 (oMv rfl rfl) <| sgF rfl rfl (iNe.2 hc19) rfl <| sgF rfl rfl (iNe.2 hc19) rfl <| sq z11 (oPkT rfl rfl (iNe.2 hc19) rfl) <| sq z11 (oMv rfl rfl) <| sgF rfl rfl rfl rfl <| sgF rfl rfl rfl rfl <| sq z11 (oPkT rfl rfl rfl rfl) <| sq z11 (oMv rfl rfl) <| sgF rfl rfl rfl rfl <| sgF rfl rfl rfl rfl <| sq z11 (oPkT rfl rfl rfl rfl) <| sq z11 (oMv rfl rfl) <| sgF rfl rfl rfl rfl <| sgF rfl rfl rfl rfl <| sgF rfl rfl rfl rfl <| sgF rfl rfl rfl rfl <| sgF rfl rfl rfl rfl <| sgF rfl rfl rfl rfl <| sgF rfl rfl rfl rfl <| sgF rfl rfl rfl rfl <| sgF rfl rfl rfl rfl <| sgF rfl rfl rfl rfl <| sgF rfl rfl rfl rfl <| sgF rfl rfl rfl rfl <| sgF rfl rfl rfl rfl <| sq z11 (oPkT rfl rfl rfl rfl) <| nl, (Eq.trans (b := (fun t_116_m11 : Bool => mk [(1, .v false [.im 2 (.row 1 (List.map (eK .u8) more_1))]), (116, bv t_116_m11)] []) true) (by kernel_rfl) (congrArg (fun t_116_m11 : Bool => mk [(1, .v false [.im 2 (.row 1 (List.map (eK .u8) more_1))]), (116, bv t_116_m11)] []) (by first | rfl | (simp [(Iff.rfl.2 hc17), (byF iNe hc18), (iNe.2 hc19)]; done) | (simp [(Iff.rfl.2 hc17), (byF iNe hc18), (iNe.2 hc19)]; omega))))⟩
                    · by_cases hc20 : x73.2 ≠ 0
                      · exact ⟨_, sq z11 (oLd (cs := [.im 0 _, .im 0 _]) rfl tF99 rfl rfl) <| sq z11 (oLd (cs := [.im 0 _, .im 0 _, .im 0 _, .im 0 _]) rfl tF101 rfl rfl) <| sq z11 (oMv rfl rfl) <| sq z11 (oCa (xs := [.v true [.im 0 _, .im 0 _], .v true [.im 0 _, .im 0 _, .im 0 _, .im 0 _], .v false [.own 9 0 0]]) (vs := [(false, [.im 0 _])]) (v := .v false [.im 0 _]) (L_impl_IsFloor hx79) (.inl rfl) rfl kF71_99_101_27 rfl (ppC rfl (ppC rfl (ppC rfl pp0))) rfl rfl pb0 rfl rfl rfl) <| sq z11 (oUn rfl rfl rfl) <| sq z11 (oMv rfl rfl) <| sgT z11 rfl rfl (nF (Iff.rfl.2 hc17)) (oMv rfl rfl) <| sgT z11 rfl rfl (nF (Iff.rfl.2 hc17)) (oBi rfl rfl rfl rfl) <| sq z11 (oPkF rfl rfl (nF (Iff.rfl.2 hc17)) rfl) <| sq z11 (oMv rfl rfl) <| sgT z11 rfl rfl (byF iNe hc18) (oMv rfl rfl) <| sgT z11 rfl rfl (byF iNe hc18) (oMv rfl rfl) <| sgT z11 rfl rfl (byF iNe hc18) (oBi rfl rfl rfl rfl) <| sq z11 (oPkF rfl rfl (byF iNe hc18) rfl) <| sq z11 (oMv rfl rfl) <| sgT z11 rfl rfl (byF iNe hc19) (oMv rfl rfl) <| sgT z11 rfl rfl (byF iNe hc19) (oBi rfl rfl rfl rfl) <| sq z11 (oPkF rfl rfl (byF iNe hc19) rfl) <| sq z11 (oMv rfl rfl) <| sgF rfl rfl (iNe.2 hc20) rfl <| sgF rfl rfl (iNe.2 hc20) rfl <| sq z11 (oPkT rfl rfl (iNe.2 hc20) rfl) <| sq z11 (oMv rfl rfl) <| sgF rfl rfl rfl rfl <| sgF rfl rfl rfl rfl <| sq z11 (oPkT rfl rfl rfl rfl) <| sq z11 (oMv rfl rfl) <| sgF rfl rfl rfl rfl <| sgF rfl rfl rfl rfl <| sgF rfl rfl rfl rfl <| sgF rfl rfl rfl rfl <| sgF rfl rfl rfl rfl <| sgF rfl rfl rfl rfl <| sgF rfl rfl rfl rfl <| sgF rfl rfl rfl rfl <| sgF rfl rfl rfl rfl <| sgF rfl rfl rfl rfl <| sgF rfl rfl rfl rfl <| sgF rfl rfl rfl rfl <| sgF rfl rfl rfl rfl <| sq z11 (oPkT rfl rfl rfl rfl) <| nl, (Eq.trans (b := (fun t_116_m11 : Bool => mk [(1, .v false [.im 2 (.row 1 (List.map (eK .u8) more_1))]), (116, bv t_116_m11)] []) true) (by kernel_rfl) (congrArg (fun t_116_m11 : Bool => mk [(1, .v false [.im 2 (.row 1 (List.map (eK .u8) more_1))]), (116, bv t_116_m11)] []) (by first | rfl | (simp [(Iff.rfl.2 hc17), (byF iNe hc18), (byF iNe hc19), (iNe.2 hc20)]; done) | (simp [(Iff.rfl.2 hc17), (byF iNe hc18), (byF iNe hc19), (iNe.2 hc20)]; omega))))⟩
                      · by_cases hc21 : x73.1 < 0
                        · exact ⟨_, sq z11 (oLd (cs := [.im 0 _, .im 0 _]) rfl tF99 rfl rfl) <| sq z11 (oLd (cs := [.im 0 _, .im 0 _, .im 0 _, .im 0 _]) rfl tF101 rfl rfl) <| sq z11 (oMv rfl rfl) <| sq z11 (oCa (xs := [.v true [.im 0 _, .im 0 _], .v true [.im 0 _, .im 0 _, .im 0 _, .im 0 _], .v false [.own 9 0 0]]) (vs := [(false, [.im 0 _])]) (v := .v false [.im 0 _]) (L_impl_IsFloor hx79) (.inl rfl) rfl kF71_99_101_27 rfl (ppC rfl (ppC rfl (ppC rfl pp0))) rfl rfl pb0 rfl rfl rfl) <| sq z11 (oUn rfl rfl rfl) <| sq z11 (oMv rfl rfl) <| sgT z11 rfl rfl (nF (Iff.rfl.2 hc17)) (oMv rfl rfl) <| sgT z11 rfl rfl (nF (Iff.rfl.2 hc17)) (oBi rfl rfl rfl rfl) <| sq z11 (oPkF rfl rfl (nF (Iff.rfl.2 hc17)) rfl) <| sq z11 (oMv rfl rfl) <| sgT z11 rfl rfl (byF iNe hc18) (oMv rfl rfl) <| sgT z11 rfl rfl (byF iNe hc18) (oMv rfl rfl) <| sgT z11 rfl rfl (byF iNe hc18) (oBi rfl rfl rfl rfl) <| sq z11 (oPkF rfl rfl (byF iNe hc18) rfl) <| sq z11 (oMv rfl rfl) <| sgT z11 rfl rfl (byF iNe hc19) (oMv rfl rfl) <| sgT z11 rfl rfl (byF iNe hc19) (oBi rfl rfl rfl rfl) <| sq z11 (oPkF rfl rfl (byF iNe hc19) rfl) <| sq z11 (oMv rfl rfl) <| sgT z11 rfl rfl (byF iNe hc20) (oMv rfl rfl) <| sgT z11 rfl rfl (byF iNe hc20) (oBi rfl rfl rfl rfl) <| sq z11 (oPkF rfl rfl (byF iNe hc20) rfl) <| sq z11 (oMv rfl rfl) <| sgF rfl rfl (iDec.2 hc21) rfl <| sgF rfl rfl (iDec.2 hc21) rfl <| sq z11 (oPkT rfl rfl (iDec.2 hc21) rfl) <| sq z11 (oMv rfl rfl) <| sgF rfl rfl rfl rfl <| sgF rfl rfl rfl rfl <| sgF rfl rfl rfl rfl <| sgF rfl rfl rfl rfl <| sgF rfl rfl rfl rfl <| sgF rfl rfl rfl rfl <| sgF rfl rfl rfl rfl <| sgF rfl rfl rfl rfl <| sgF rfl rfl rfl rfl <| sgF rfl rfl rfl rfl <| sgF rfl rfl rfl rfl <| sgF rfl rfl rfl rfl <| sgF rfl rfl rfl rfl <| sq z11 (oPkT rfl rfl rfl rfl) <| nl, (Eq.trans (b := (fun t_116_m11 : Bool => mk [(1, .v false [.im 2 (.row 1 (List.map (eK .u8) more_1))]), (116, bv t_116_m11)] []) true) (by kernel_rfl) (congrArg (fun t_116_m11 : Bool => mk [(1, .v false [.im 2 (.row 1 (List.map (eK .u8) more_1))]), (116, bv t_116_m11)] []) (by first | rfl | (simp [(Iff.rfl.2 hc17), (byF iNe hc18), (byF iNe hc19), (byF iNe hc20), (iDec.2 hc21)]; done) | (simp [(Iff.rfl.2 hc17), (byF iNe hc18), (byF iNe hc19), (byF iNe hc20), (iDec.2 hc21)]; omega))))⟩
                        · by_cases hc22 : x73.1 > 999
                          · exact ⟨_, sq z11 (oLd (cs := [.im 0 _, .im 0 _]) rfl tF99 rfl rfl) <| sq z11 (oLd (cs := [.im 0 _, .im 0 _, .im 0 _, .im 0 _]) rfl tF101 rfl rfl) <| sq z11 (oMv rfl rfl) <| sq z11 (oCa (xs := [.v true [.im 0 _, .im 0 _], .v true [.im 0 _, .im 0 _, .im 0 _, .im 0 _], .v false [.own 9 0 0]]) (vs := [(false, [.im 0 _])]) (v := .v false [.im 0 _]) (L_impl_IsFloor hx79) (.inl rfl) rfl kF71_99_101_27 rfl (ppC rfl (ppC rfl (ppC rfl pp0))) rfl rfl pb0 rfl rfl rfl) <| sq z11 (oUn rfl rfl rfl) <| sq z11 (oMv rfl rfl) <| sgT z11 rfl rfl (nF (Iff.rfl.2 hc17)) (oMv rfl rfl) <| sgT z11 rfl rfl (nF (Iff.rfl.2 hc17)) (oBi rfl rfl rfl rfl) <| sq z11 (oPkF rfl rfl (nF (Iff.rfl.2 hc17)) rfl) <| sq z11 (oMv rfl rfl) <| sgT z11 rfl rfl (byF iNe hc18) (oMv rfl rfl) <| sgT z11 rfl rfl (byF iNe hc18) (oMv rfl rfl) <| sgT z11 rfl rfl (byF iNe hc18) (oBi rfl rfl rfl rfl) <| sq z11 (oPkF rfl rfl (byF iNe hc18) rfl) <| sq z11 (oMv rfl rfl) <| sgT z11 rfl rfl (byF iNe hc19) (oMv rfl rfl) <| sgT z11 rfl rfl (byF iNe hc19) (oBi rfl rfl rfl rfl) <| sq z11 (oPkF rfl rfl (byF iNe hc19) rfl) <| sq z11 (oMv rfl rfl) <| sgT z11 rfl rfl (byF iNe hc20) (oMv rfl rfl) <| sgT z11 rfl rfl (byF iNe hc20) (oBi rfl rfl rfl rfl) <| sq z11 (oPkF rfl rfl (byF iNe hc20) rfl) <| sq z11 (oMv rfl rfl) <| sgT z11 rfl rfl (byF iDec hc21) (oMv rfl rfl) <| sgT z11 rfl rfl (byF iDec hc21) (oBi rfl rfl rfl rfl) <| sq z11 (oPkF rfl rfl (byF iDec hc21) rfl) <| sq z11 (oMv rfl rfl) <| sgF rfl rfl (iDec.2 hc22) rfl <| sgF rfl rfl (iDec.2 hc22) rfl <| sgF rfl rfl (iDec.2 hc22) rfl <| sgF rfl rfl (iDec.2 hc22) rfl <| sgF rfl rfl (iDec.2 hc22) rfl <| sgF rfl rfl (iDec.2 hc22) rfl <| sgF rfl rfl (iDec.2 hc22) rfl <| sgF rfl rfl (iDec.2 hc22) rfl <| sgF rfl rfl (iDec.2 hc22) rfl <| sgF rfl rfl (iDec.2 hc22) rfl <| sgF rfl rfl (iDec.2 hc22) rfl <| sgF rfl rfl (iDec.2 hc22) rfl <| sgF rfl rfl (iDec.2 hc22) rfl <| sq z11 (oPkT rfl rfl (iDec.2 hc22) rfl) <| nl, (Eq.trans (b := (fun t_116_m11 : Bool => mk [(1, .v false [.im 2 (.row 1 (List.map (eK .u8) more_1))]), (116, bv t_116_m11)] []) true) (by kernel_rfl) (congrArg (fun t_116_m11 : Bool => mk [(1, .v false [.im 2 (.row 1 (List.map (eK .u8) more_1))]), (116, bv t_116_m11)] []) (by first | rfl | (simp [(Iff.rfl.2 hc17), (byF iNe hc18), (byF iNe hc19), (byF iNe hc20), (byF iDec hc21), (iDec.2 hc22)]; done) | (simp [(Iff.rfl.2 hc17), (byF iNe hc18), (byF iNe hc19), (byF iNe hc20), (byF iDec hc21), (iDec.2 hc22)]; omega))))⟩
                          · exact ⟨_, sq z11 (oLd (cs := [.im 0 _, .im 0 _]) rfl tF99 rfl rfl) <| sq z11 (oLd (cs := [.im 0 _, .im 0 _, .im 0 _, .im 0 _]) rfl tF101 rfl rfl) <| sq z11 (oMv rfl rfl) <| sq z11 (oCa (xs := [.v true [.im 0 _, .im 0 _], .v true [.im 0 _, .im 0 _, .im 0 _, .im 0 _], .v false [.own 9 0 0]]) (vs := [(false, [.im 0 _])]) (v := .v false [.im 0 _]) (L_impl_IsFloor hx79) (.inl rfl) rfl kF71_99_101_27 rfl (ppC rfl (ppC rfl (ppC rfl pp0))) rfl rfl pb0 rfl rfl rfl) <| sq z11 (oUn rfl rfl rfl) <| sq z11 (oMv rfl rfl) <| sgT z11 rfl rfl (nF (Iff.rfl.2 hc17)) (oMv rfl rfl) <| sgT z11 rfl rfl (nF (Iff.rfl.2 hc17)) (oBi rfl rfl rfl rfl) <| sq z11 (oPkF rfl rfl (nF (Iff.rfl.2 hc17)) rfl) <| sq z11 (oMv rfl rfl) <| sgT z11 rfl rfl (byF iNe hc18) (oMv rfl rfl) <| sgT z11 rfl rfl (byF iNe hc18) (oMv rfl rfl) <| sgT z11 rfl rfl (byF iNe hc18) (oBi rfl rfl rfl rfl) <| sq z11 (oPkF rfl rfl (byF iNe hc18) rfl) <| sq z11 (oMv rfl rfl) <| sgT z11 rfl rfl (byF iNe hc19) (oMv rfl rfl) <| sgT z11 rfl rfl (byF iNe hc19) (oBi rfl rfl rfl rfl) <| sq z11 (oPkF rfl rfl (byF iNe hc19) rfl) <| sq z11 (oMv rfl rfl) <| sgT z11 rfl rfl (byF iNe hc20) (oMv rfl rfl) <| sgT z11 rfl rfl (byF iNe hc20) (oBi rfl rfl rfl rfl) <| sq z11 (oPkF rfl rfl (byF iNe hc20) rfl) <| sq z11 (oMv rfl rfl) <| sgT z11 rfl rfl (byF iDec hc21) (oMv rfl rfl) <| sgT z11 rfl rfl (byF iDec hc21) (oBi rfl rfl rfl rfl) <| sq z11 (oPkF rfl rfl (byF iDec hc21) rfl) <| sq z11 (oMv rfl rfl) <| sgT z11 rfl rfl (byF iDec hc22) (oMv rfl rfl) <| sgT z11 rfl rfl (byF iDec hc22) (oFA (r' := .mp 6 0 0) rfl fF101_0 rfl rfl) <| sgT z11 rfl rfl (byF iDec hc22) (oLd (cs := [.im 0 _]) rfl tF2 rfl rfl) <| sgT z11 rfl rfl (byF iDec hc22) (oBi rfl rfl rfl rfl) <| sgT z11 rfl rfl (byF iDec hc22) (oFA (r' := .mp 6 0 1) rfl fF101_1 rfl rfl) <| sgT z11 rfl rfl (byF iDec hc22) (oLd (cs := [.im 0 _]) rfl tF2 rfl rfl) <| sgT z11 rfl rfl (byF iDec hc22) (oBi rfl rfl rfl rfl) <| sgT z11 rfl rfl (byF iDec hc22) (oFA (r' := .mp 5 0 0) rfl fF99_0 rfl rfl) <| sgT z11 rfl rfl (byF iDec hc22) (oLd (cs := [.im 0 _]) rfl tF2 rfl rfl) <| sgT z11 rfl rfl (byF iDec hc22) (oFA (r' := .mp 5 0 1) rfl fF99_1 rfl rfl) <| sgT z11 rfl rfl (byF iDec hc22) (oLd (cs := [.im 0 _]) rfl tF2 rfl rfl) <| sgT z11 rfl rfl (byF iDec hc22) (oBi rfl rfl rfl rfl) <| sgT z11 rfl rfl (byF iDec hc22) (oBi rfl rfl rfl rfl) <| sq z11 (oPkF rfl rfl (byF iDec hc22) rfl) <| nl, (Eq.trans (b := (fun t_116_m11 : Bool => mk [(1, .v false [.im 2 (.row 1 (List.map (eK .u8) more_1))]), (116, bv t_116_m11)] []) (decide ((w64 ((w64 (x41.2.1 * x31.2.1.Board)) * x31.2.1.Wide)) < (w64 (x31.1.Width * x31.1.Length))))) (by kernel_rfl) (congrArg (fun t_116_m11 : Bool => mk [(1, .v false [.im 2 (.row 1 (List.map (eK .u8) more_1))]), (116, bv t_116_m11)] []) (by first | rfl | (simp [(Iff.rfl.2 hc17), (byF iNe hc18), (byF iNe hc19), (byF iNe hc20), (byF iDec hc21), (byF iDec hc22)]; done) | (simp [(Iff.rfl.2 hc17), (byF iNe hc18), (byF iNe hc19), (byF iNe hc20), (byF iDec hc21), (byF iDec hc22)]; omega))))⟩
                · exact ⟨_, sq z11 (oLd (cs := [.im 0 _, .im 0 _]) rfl tF99 rfl rfl) <| sq z11 (oLd (cs := [.im 0 _, .im 0 _, .im 0 _, .im 0 _]) rfl tF101 rfl rfl) <| sq z11 (oMv rfl rfl) <| sq z11 (oCa (xs := [.v true [.im 0 _, .im 0 _], .v true [.im 0 _, .im 0 _, .im 0 _, .im 0 _], .v false [.own 9 0 0]]) (vs := [(false, [.im 0 _])]) (v := .v false [.im 0 _]) (L_impl_IsFloor hx79) (.inl rfl) rfl kF71_99_101_27 rfl (ppC rfl (ppC rfl (ppC rfl pp0))) rfl rfl pb0 rfl rfl rfl) <| sq z11 (oUn rfl rfl rfl) <| sq z11 (oMv rfl rfl) <| sgF rfl rfl (nT (byF Iff.rfl hc17)) rfl <| sgF rfl rfl (nT (byF Iff.rfl hc17)) rfl <| sq z11 (oPkT rfl rfl (nT (byF Iff.rfl hc17)) rfl) <| sq z11 (oMv rfl rfl) <| sgF rfl rfl rfl rfl <| sgF rfl rfl rfl rfl <| sgF rfl rfl rfl rfl <| sq z11 (oPkT rfl rfl rfl rfl) <| sq z11 (oMv rfl rfl) <| sgF rfl rfl rfl rfl <| sgF rfl rfl rfl rfl <| sq z11 (oPkT rfl rfl rfl rfl) <| sq z11 (oMv rfl rfl) <| sgF rfl rfl rfl rfl <| sgF rfl rfl rfl rfl <| sq z11 (oPkT rfl rfl rfl rfl) <| sq z11 (oMv rfl rfl) <| sgF rfl rfl rfl rfl <| sgF rfl rfl rfl rfl <| sq z11 (oPkT rfl rfl rfl rfl) <| sq z11 (oMv rfl rfl) <| sgF rfl rfl rfl rfl <| sgF rfl rfl rfl rfl <| sgF rfl rfl rfl rfl <| sgF rfl rfl rfl rfl <| sgF rfl rfl rfl rfl <| sgF rfl rfl rfl rfl <| sgF rfl rfl rfl rfl <| sgF rfl rfl rfl rfl <| sgF rfl rfl rfl rfl <| sgF rfl rfl rfl rfl <| sgF rfl rfl rfl rfl <| sgF rfl rfl rfl rfl <| sgF rfl rfl rfl rfl <| sq z11 (oPkT rfl rfl rfl rfl) <| nl, (Eq.trans (b := (fun t_116_m11 : Bool => mk [(1, .v false [.im 2 (.row 1 (List.map (eK .u8) more_1))]), (116, bv t_116_m11)] []) true) (by kernel_rfl) (congrArg (fun t_116_m11 : Bool => mk [(1, .v false [.im 2 (.row 1 (List.map (eK .u8) more_1))]), (116, bv t_116_m11)] []) (by first | rfl | (simp [(byF Iff.rfl hc17)]; done) | (simp [(byF Iff.rfl hc17)]; omega))))⟩
              · refine Unw.seq ?_
                by_cases hc23 : (¬ (x79 = true) ∨ (x66.2 ≠ 0 ∨ (x66.1 ≠ x41.2.1 ∨ (x73.2 ≠ 0 ∨ (x73.1 < 0 ∨ (x73.1 > 999 ∨ (w64 ((w64 (x41.2.1 * x31.2.1.Board)) * x31.2.1.Wide)) < (w64 (x31.1.Width * x31.1.Length))))))))
                · rw [if_pos hc23] at h
                  refine Go.condT rfl ((iOr (iNot Iff.rfl) (iOr iNe (iOr iNe (iOr iNe (iOr iDec (iOr iDec iDec)))))).2 hc23) ?_
                  refine Go.seq ?_
                  refine Go.r0 c11 rfl rfl (sq z11 (oAsI rfl rfl) <| nl) ?_
                  refine Unw.seq ?_
                  refine Go.ret (Unw.ret ?_)
                  cases h
                  exact Fin_ret (fin_of rfl rF11 rfl (by kernel_rfl))
                · rw [if_neg hc23] at h
                  refine Go.condF rfl (byF (iOr (iNot Iff.rfl) (iOr iNe (iOr iNe (iOr iNe (iOr iDec (iOr iDec iDec)))))) hc23) ?_
                  refine Go.skip ?_
                  exact K15 _ ⟨h, (by kernel_rfl)⟩
            · rw [if_neg hc16] at h
              refine Go.condF rfl (byF iEq hc16) ?_
              refine Go.skip ?_
              exact K15 _ ⟨h, (by kernel_rfl)⟩
end
end Go.Proofs.Ytigjhjlkdamncaa
