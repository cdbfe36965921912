/- The machine answers, at each function of the program that is reached, what its plain function answers: a further part. Conditions: none. -/
import Derived.Test.YtigjhjlkdamncaaTfsLa
namespace Go.Proofs.Ytigjhjlkdamncaa
open Go Go.Sim Go.Pw Go.Proofs
set_option linter.unusedVariables false
set_option linter.unusedSimpArgs false
set_option maxRecDepth 100000
set_option maxHeartbeats 4000000
noncomputable section

theorem L_laws_FnExactFewestSteps {aSpecies_0 : ByteArray} {aShade_1 : Int} {aTarget_2 : Int} {aTolerance_3 : Int} {aMenu_4 : (List S_Step)} {aBudget_5 : Int} {r : Bool} (h : laws_FnExactFewestSteps aSpecies_0 aShade_1 aTarget_2 aTolerance_3 aMenu_4 aBudget_5 = some r) : FL Try.prog cfg 6 [.im 2 false [.sc (.string aSpecies_0)], .im 2 false [.sc (.int .i64 aShade_1)], .im 2 false [.sc (.int .i64 aTarget_2)], .im 2 false [.sc (.int .i64 aTolerance_3)], .im 2 false [.row 3 (List.map e_S_Step aMenu_4)], .im 2 false [.sc (.int .i64 aBudget_5)]] = some ([(false, [.im 0 (.sc (.bool r))])], []) := by
  unfold laws_FnExactFewestSteps at h
  refine FL_goS (A := [(0, .v false [.im 2 (.sc (.string aSpecies_0))]), (1, .v false [.im 2 (.sc (.int .i64 aShade_1))]), (2, .v false [.im 2 (.sc (.int .i64 aTarget_2))]), (3, .v false [.im 2 (.sc (.int .i64 aTolerance_3))]), (4, .v false [.im 2 (.row 3 (List.map e_S_Step aMenu_4))]), (5, .v false [.im 2 (.sc (.int .i64 aBudget_5))])]) (B := [(0, none), (1, none), (2, none), (3, none), (4, none), (5, none)]) (nt := 124) rfl rfl Try.func6 rfl rfl rfl rfl ?_
  refine Go.seq ?_
  refine Go.r0 c6 rfl rfl (sq z6 (oAsI rfl rfl) <| nl) ?_
  refine Unw.seq ?_
  refine Go.seq ?_
  refine Go.seq ?_
  refine Go.r0 c6 rfl rfl (sq z6 (oMv rfl rfl) <| sq z6 (oLnS rfl rfl uF9 rfl) <| sq z6 (oBi rfl rfl rfl rfl) <| nl) ?_
  refine Unw.seq ?_
  by_cases hc1 : (aSpecies_0.size : Int) > 1048576
  · rw [if_pos hc1] at h
    refine Go.condT rfl (iDec.2 hc1) ?_
    refine Go.seq ?_
    refine Go.r0 c6 rfl rfl (sq z6 (oAsI rfl rfl) <| nl) ?_
    refine Unw.seq ?_
    refine Go.ret (Unw.ret ?_)
    cases h
    exact Fin_ret (fin_of rfl rF6 rfl (by kernel_rfl))
  · rw [if_neg hc1] at h
    refine Go.condF rfl (byF iDec hc1) ?_
    refine Go.skip ?_
    refine Unw.seq ?_
    refine Go.seq ?_
    refine Go.r0 c6 rfl rfl (sq z6 (oAsI rfl rfl) <| nl) ?_
    refine Unw.seq ?_
    refine Go.seq ?_
    obtain ⟨x29, hx29, h⟩ := bs h
    refine Go.r0 c6 rfl rfl (sq z6 (oMv rfl rfl) <| sq z6 (oMv rfl rfl) <| sq z6 (oCa (xs := [.v false [.im 2 _], .v false [.im 0 _]]) (vs := [(false, [.im 0 _])]) (v := .v false [.im 0 _]) (L_laws_szStepS hx29) (.inl rfl) rfl kF40_61_3 rfl (ppC rfl (ppC rfl pp0)) rfl rfl pb0 rfl rfl rfl) <| sq z6 (oAsI rfl rfl) <| nl) ?_
    refine Unw.seq ?_
    refine Go.seq ?_
    refine Go.seq ?_
    refine Go.r0 c6 rfl rfl (sq z6 (oMv rfl rfl) <| sq z6 (oBi rfl rfl rfl rfl) <| nl) ?_
    refine Unw.seq ?_
    by_cases hc2 : x29 < 0
    · rw [if_pos hc2] at h
      refine Go.condT rfl (iDec.2 hc2) ?_
      refine Go.seq ?_
      refine Go.r0 c6 rfl rfl (sq z6 (oAsI rfl rfl) <| nl) ?_
      refine Unw.seq ?_
      refine Go.ret (Unw.ret ?_)
      cases h
      exact Fin_ret (fin_of rfl rF6 rfl (by kernel_rfl))
    · rw [if_neg hc2] at h
      refine Go.condF rfl (byF iDec hc2) ?_
      refine Go.skip ?_
      refine Unw.seq ?_
      refine Go.seq ?_
      obtain ⟨x38, hx38, h⟩ := bs h
      obtain ⟨x40, hx40, h⟩ := bs h
      refine Go.r0 c6 rfl rfl (sq z6 (oMv rfl rfl) <| sq z6 (oMv rfl rfl) <| sq z6 (oMv rfl rfl) <| sq z6 (oMv rfl rfl) <| sq z6 (oMv rfl rfl) <| sq z6 (oCr (xs := [.v false [.im 2 _]]) (vs := [(false, [.own 38 0 0])]) (v := .v false [.own 38 0 0]) (c := ⟨.sh, 0, _⟩) (cs := []) (L_laws_toStepS hx38) (.inl rfl) rfl kF42_61 rfl (ppC rfl pp0) rfl rfl pb0 rfl rfl rfl) <| sq z6 (oMv rfl rfl) <| sq z6 (oCr (xs := [.v false [.im 2 _], .v false [.im 2 _], .v false [.im 2 _], .v false [.im 2 _], .v false [.own 38 0 0], .v false [.im 2 _]]) (vs := [(false, [.own 40 0 0]), (false, [.im 0 _])]) (v := .tup [(false, [.own 40 0 0]), (false, [.im 0 _])]) (c := ⟨.sh, 0, _⟩) (cs := []) (L_spec_FewestSteps hx40) (.inl rfl) rfl kF41_9_2_2_2_63_2 rfl (ppC rfl (ppC rfl (ppC rfl (ppC rfl (ppC rfl (ppC rfl pp0)))))) rfl rfl pb0 rfl rfl rfl) <| sq z6 (oMvT rfl rfl) <| sq z6 (oEx rfl rfl rfl) <| sq z6 (oEx rfl rfl rfl) <| sq z6 (oAsO rfl rfl rfl rfl rfl) <| sq z6 (oAsI rfl rfl) <| nl) ?_
      refine Unw.seq ?_
      refine Go.seq ?_
      obtain ⟨x44, hx44, h⟩ := bs h
      refine Go.r0 c6 rfl rfl (sq z6 (oMv rfl rfl) <| sq z6 (oCr (xs := [.v false [.im 2 _]]) (vs := [(false, [.own 44 0 0])]) (v := .v false [.own 44 0 0]) (c := ⟨.sh, 0, _⟩) (cs := []) (L_laws_toStepS hx44) (.inl rfl) rfl kF42_61 rfl (ppC rfl pp0) rfl rfl pb0 rfl rfl rfl) <| sq z6 (oAsO rfl rfl rfl rfl rfl) <| nl) ?_
      refine Unw.seq ?_
      refine Go.seq ?_
      obtain ⟨x52, hx52, h⟩ := bs h
      refine Go.r0 c6 rfl rfl (sq z6 (oMv rfl rfl) <| sq z6 (oMv rfl rfl) <| sq z6 (oMv rfl rfl) <| sq z6 (oMv rfl rfl) <| sq z6 (oMv rfl rfl) <| sq z6 (oMv rfl rfl) <| sq z6 (oCr (xs := [.v false [.im 2 _], .v false [.im 2 _], .v false [.im 2 _], .v false [.im 2 _], .v false [.own 16 0 0], .v false [.im 2 _]]) (vs := [(false, [.own 52 0 0]), (false, [.im 0 _])]) (v := .tup [(false, [.own 52 0 0]), (false, [.im 0 _])]) (c := ⟨.sh, 0, _⟩) (cs := []) (L_impl_FewestSteps hx52) (.inl rfl) rfl kF43_9_2_2_2_63_2 rfl (ppC rfl (ppC rfl (ppC rfl (ppC rfl (ppC rfl (ppC rfl pp0)))))) rfl rfl pb0 rfl rfl rfl) <| sq z6 (oMvT rfl rfl) <| sq z6 (oEx rfl rfl rfl) <| sq z6 (oEx rfl rfl rfl) <| sq z6 (oAsO rfl rfl rfl rfl rfl) <| sq z6 (oAsI rfl rfl) <| nl) ?_
      refine Unw.seq ?_
      refine Go.seq ?_
      refine Go.seq ?_
      obtain ⟨x57, hx57, h⟩ := bs h
      refine Go.rX c6 rfl rfl rfl (mk [(0, sv aSpecies_0), (1, iv aShade_1), (2, iv aTarget_2), (3, iv aTolerance_3), (4, .v false [.im 2 (.row 3 (List.map e_S_Step aMenu_4))]), (5, iv aBudget_5), (14, .v false [.own 14 0 0]), (15, iv x40.2), (16, .v false [.own 16 0 0]), (17, .v false [.own 17 0 0]), (18, iv x52.2), (63, bv ((!x57) || (x52.2 != x40.2)))] [(14, some ⟨0, 0, false, false, false, false, [⟨.sh, 0, 0, .row 3 (List.map e_S_Step x40.1)⟩]⟩), (16, some ⟨0, 0, false, false, false, false, [⟨.sh, 0, 0, .row 3 (List.map e_S_Step x44)⟩]⟩), (17, some ⟨0, 0, false, false, false, false, [⟨.sh, 0, 0, .row 3 (List.map e_S_Step x52.1)⟩]⟩)]) ?_ ?_
      · by_cases hc3 : x57 = true
        · exact ⟨_, sq z6 (oMv rfl rfl) <| sq z6 (oMv rfl rfl) <| sq z6 (oCa (xs := [.v false [.own 17 0 0], .v false [.own 14 0 0]]) (vs := [(false, [.im 0 _])]) (v := .v false [.im 0 _]) (L_laws_eqStepS hx57) (.inl rfl) rfl kF44_63_63 rfl (ppC rfl (ppC rfl pp0)) rfl rfl pb0 rfl rfl rfl) <| sq z6 (oUn rfl rfl rfl) <| sq z6 (oMv rfl rfl) <| sgT z6 rfl rfl (nF (Iff.rfl.2 hc3)) (oMv rfl rfl) <| sgT z6 rfl rfl (nF (Iff.rfl.2 hc3)) (oMv rfl rfl) <| sgT z6 rfl rfl (nF (Iff.rfl.2 hc3)) (oBi rfl rfl rfl rfl) <| sq z6 (oPkF rfl rfl (nF (Iff.rfl.2 hc3)) rfl) <| nl, (Eq.trans (b := (fun t_63_m10 : Bool => mk [(0, sv aSpecies_0), (1, iv aShade_1), (2, iv aTarget_2), (3, iv aTolerance_3), (4, .v false [.im 2 (.row 3 (List.map e_S_Step aMenu_4))]), (5, iv aBudget_5), (14, .v false [.own 14 0 0]), (15, iv x40.2), (16, .v false [.own 16 0 0]), (17, .v false [.own 17 0 0]), (18, iv x52.2), (63, bv t_63_m10)] [(14, some ⟨0, 0, false, false, false, false, [⟨.sh, 0, 0, .row 3 (List.map e_S_Step x40.1)⟩]⟩), (16, some ⟨0, 0, false, false, false, false, [⟨.sh, 0, 0, .row 3 (List.map e_S_Step x44)⟩]⟩), (17, some ⟨0, 0, false, false, false, false, [⟨.sh, 0, 0, .row 3 (List.map e_S_Step x52.1)⟩]⟩)]) (x52.2 != x40.2)) (by kernel_rfl) (congrArg (fun t_63_m10 : Bool => mk [(0, sv aSpecies_0), (1, iv aShade_1), (2, iv aTarget_2), (3, iv aTolerance_3), (4, .v false [.im 2 (.row 3 (List.map e_S_Step aMenu_4))]), (5, iv aBudget_5), (14, .v false [.own 14 0 0]), (15, iv x40.2), (16, .v false [.own 16 0 0]), (17, .v false [.own 17 0 0]), (18, iv x52.2), (63, bv t_63_m10)] [(14, some ⟨0, 0, false, false, false, false, [⟨.sh, 0, 0, .row 3 (List.map e_S_Step x40.1)⟩]⟩), (16, some ⟨0, 0, false, false, false, false, [⟨.sh, 0, 0, .row 3 (List.map e_S_Step x44)⟩]⟩), (17, some ⟨0, 0, false, false, false, false, [⟨.sh, 0, 0, .row 3 (List.map e_S_Step x52.1)⟩]⟩)]) (by first | rfl | simp [(Iff.rfl.2 hc3)])))⟩
        · exact ⟨_, sq z6 (oMv rfl rfl) <| sq z6 (oMv rfl rfl) <| sq z6 (oCa (xs := [.v false [.own 17 0 0], .v false [.own 14 0 0]]) (vs := [(false, [.im 0 _])]) (v := .v false [.im 0 _]) (L_laws_eqStepS hx57) (.inl rfl) rfl kF44_63_63 rfl (ppC rfl (ppC rfl pp0)) rfl rfl pb0 rfl rfl rfl) <| sq z6 (oUn rfl rfl rfl) <| sq z6 (oMv rfl rfl) <| sgF rfl rfl (nT (byF Iff.rfl hc3)) rfl <| sgF rfl rfl (nT (byF Iff.rfl hc3)) rfl <| sgF rfl rfl (nT (byF Iff.rfl hc3)) rfl <| sq z6 (oPkT rfl rfl (nT (byF Iff.rfl hc3)) rfl) <| nl, (Eq.trans (b := (fun t_63_m10 : Bool => mk [(0, sv aSpecies_0), (1, iv aShade_1), (2, iv aTarget_2), (3, iv aTolerance_3), (4, .v false [.im 2 (.row 3 (List.map e_S_Step aMenu_4))]), (5, iv aBudget_5), (14, .v false [.own 14 0 0]), (15, iv x40.2), (16, .v false [.own 16 0 0]), (17, .v false [.own 17 0 0]), (18, iv x52.2), (63, bv t_63_m10)] [(14, some ⟨0, 0, false, false, false, false, [⟨.sh, 0, 0, .row 3 (List.map e_S_Step x40.1)⟩]⟩), (16, some ⟨0, 0, false, false, false, false, [⟨.sh, 0, 0, .row 3 (List.map e_S_Step x44)⟩]⟩), (17, some ⟨0, 0, false, false, false, false, [⟨.sh, 0, 0, .row 3 (List.map e_S_Step x52.1)⟩]⟩)]) true) (by kernel_rfl) (congrArg (fun t_63_m10 : Bool => mk [(0, sv aSpecies_0), (1, iv aShade_1), (2, iv aTarget_2), (3, iv aTolerance_3), (4, .v false [.im 2 (.row 3 (List.map e_S_Step aMenu_4))]), (5, iv aBudget_5), (14, .v false [.own 14 0 0]), (15, iv x40.2), (16, .v false [.own 16 0 0]), (17, .v false [.own 17 0 0]), (18, iv x52.2), (63, bv t_63_m10)] [(14, some ⟨0, 0, false, false, false, false, [⟨.sh, 0, 0, .row 3 (List.map e_S_Step x40.1)⟩]⟩), (16, some ⟨0, 0, false, false, false, false, [⟨.sh, 0, 0, .row 3 (List.map e_S_Step x44)⟩]⟩), (17, some ⟨0, 0, false, false, false, false, [⟨.sh, 0, 0, .row 3 (List.map e_S_Step x52.1)⟩]⟩)]) (by first | rfl | simp [(byF Iff.rfl hc3)])))⟩
      · refine Unw.seq ?_
        by_cases hc4 : (¬ (x57 = true) ∨ x52.2 ≠ x40.2)
        · rw [if_pos hc4] at h
          refine Go.condT rfl ((iOr (iNot Iff.rfl) iNe).2 hc4) ?_
          refine Go.seq ?_
          refine Go.r0 c6 rfl rfl (sq z6 (oAsI rfl rfl) <| nl) ?_
          refine Unw.seq ?_
          refine Go.ret (Unw.ret ?_)
          cases h
          exact Fin_ret (fin_of rfl rF6 rfl (by kernel_rfl))
        · rw [if_neg hc4] at h
          refine Go.condF rfl (byF (iOr (iNot Iff.rfl) iNe) hc4) ?_
          refine Go.skip ?_
          refine Unw.seq ?_
          refine Go.seq ?_
          refine Go.seq ?_
          obtain ⟨x66, hx66, h⟩ := bs h
          obtain ⟨x67, hx67, h⟩ := bs h
          refine Go.r0 c6 rfl rfl (sq z6 (oMv rfl rfl) <| sq z6 (oMv rfl rfl) <| sq z6 (oCr (xs := [.v false [.im 2 _]]) (vs := [(false, [.own 66 0 0])]) (v := .v false [.own 66 0 0]) (c := ⟨.sh, 0, _⟩) (cs := []) (L_laws_toStepS hx66) (.inl rfl) rfl kF42_61 rfl (ppC rfl pp0) rfl rfl pb0 rfl rfl rfl) <| sq z6 (oCa (xs := [.v false [.own 16 0 0], .v false [.own 66 0 0]]) (vs := [(false, [.im 0 _])]) (v := .v false [.im 0 _]) (L_laws_eqStepS hx67) (.inl rfl) rfl kF44_63_63 rfl (ppC rfl (ppC rfl pp0)) rfl rfl pb0 rfl rfl rfl) <| sq z6 (oUn rfl rfl rfl) <| nl) ?_
          refine Unw.seq ?_
          by_cases hc5 : x67 = true
          · rw [if_pos hc5] at h
            refine Go.condF rfl (nF (Iff.rfl.2 hc5)) ?_
            refine Go.skip ?_
            refine Unw.seq ?_
            refine Go.seq ?_
            refine Go.r0 c6 rfl rfl (sq z6 (oAsI rfl rfl) <| nl) ?_
            refine Unw.seq ?_
            refine Go.seq ?_
            obtain ⟨x71, hx71, h⟩ := bs h
            refine Go.r0 c6 rfl rfl (sq z6 (oMv rfl rfl) <| sq z6 (oMv rfl rfl) <| sq z6 (oCa (xs := [.v false [.own 16 0 0], .v false [.im 0 _]]) (vs := [(false, [.im 0 _])]) (v := .v false [.im 0 _]) (L_laws_markStepS hx71) (.inl rfl) rfl kF45_63_3 rfl (ppC rfl (ppC rfl pp0)) rfl rfl (pbO rfl rfl rfl rfl pb0) rfl rfl rfl) <| sq z6 (oAsI rfl rfl) <| nl) ?_
            refine Unw.seq ?_
            refine Go.seq ?_
            refine Go.seq ?_
            obtain ⟨t_84_m16, hm15, h⟩ := bs h
            refine Go.rX c6 rfl rfl (st1 := mk [(0, sv aSpecies_0), (1, iv aShade_1), (2, iv aTarget_2), (3, iv aTolerance_3), (4, .v false [.im 2 (.row 3 (List.map e_S_Step aMenu_4))]), (5, iv aBudget_5), (14, .v false [.own 14 0 0]), (15, iv x40.2), (17, .v false [.own 17 0 0]), (18, iv x52.2), (19, iv x71.1)] [(14, some ⟨0, 0, false, false, false, false, [⟨.sh, 0, 0, .row 3 (List.map e_S_Step x40.1)⟩]⟩), (17, some ⟨0, 0, false, false, false, false, [⟨.sh, 0, 0, .row 3 (List.map e_S_Step x52.1)⟩]⟩)]) (by kernel_rfl) (mk [(0, sv aSpecies_0), (1, iv aShade_1), (2, iv aTarget_2), (3, iv aTolerance_3), (4, .v false [.im 2 (.row 3 (List.map e_S_Step aMenu_4))]), (5, iv aBudget_5), (14, .v false [.own 14 0 0]), (15, iv x40.2), (17, .v false [.own 17 0 0]), (84, bv t_84_m16)] [(14, some ⟨0, 0, false, false, false, false, [⟨.sh, 0, 0, .row 3 (List.map e_S_Step x40.1)⟩]⟩), (17, some ⟨0, 0, false, false, false, false, [⟨.sh, 0, 0, .row 3 (List.map e_S_Step x52.1)⟩]⟩)]) ?_ ?_
            · by_cases hc6 : x71.1 < 0
              · rw [if_pos hc6] at hm15
                cases hm15
                exact ⟨_, sq z6 (oMv rfl rfl) <| sq z6 (oBi rfl rfl rfl rfl) <| sq z6 (oMv rfl rfl) <| sgF rfl rfl (iDec.2 hc6) rfl <| sgF rfl rfl (iDec.2 hc6) rfl <| sgF rfl rfl (iDec.2 hc6) rfl <| sgF rfl rfl (iDec.2 hc6) rfl <| sq z6 (oPkT rfl rfl (iDec.2 hc6) rfl) <| sq z6 (oMv rfl rfl) <| sgF rfl rfl rfl rfl <| sgF rfl rfl rfl rfl <| sgF rfl rfl rfl rfl <| sq z6 (oPkT rfl rfl rfl rfl) <| nl, (by kernel_rfl)⟩
              · rw [if_neg hc6] at hm15
                obtain ⟨x77, hx77, hm15⟩ := bs hm15
                by_cases hc7 : x77 = true
                · rw [if_pos hc7] at hm15
                  cases hm15
                  exact ⟨_, sq z6 (oMv rfl rfl) <| sq z6 (oBi rfl rfl rfl rfl) <| sq z6 (oMv rfl rfl) <| sgT z6 rfl rfl (byF iDec hc6) (oMv rfl rfl) <| sgT z6 rfl rfl (byF iDec hc6) (oMv rfl rfl) <| sgT z6 rfl rfl (byF iDec hc6) (oCa (xs := [.v false [.own 17 0 0], .v false [.own 14 0 0]]) (vs := [(false, [.im 0 _])]) (v := .v false [.im 0 _]) (L_laws_eqStepS hx77) (.inl rfl) rfl kF44_63_63 rfl (ppC rfl (ppC rfl pp0)) rfl rfl pb0 rfl rfl rfl) <| sgT z6 rfl rfl (byF iDec hc6) (oUn rfl rfl rfl) <| sq z6 (oPkF rfl rfl (byF iDec hc6) rfl) <| sq z6 (oMv rfl rfl) <| sgT z6 rfl rfl (nF (Iff.rfl.2 hc7)) (oMv rfl rfl) <| sgT z6 rfl rfl (nF (Iff.rfl.2 hc7)) (oMv rfl rfl) <| sgT z6 rfl rfl (nF (Iff.rfl.2 hc7)) (oBi rfl rfl rfl rfl) <| sq z6 (oPkF rfl rfl (nF (Iff.rfl.2 hc7)) rfl) <| nl, (by kernel_rfl)⟩
                · rw [if_neg hc7] at hm15
                  cases hm15
                  exact ⟨_, sq z6 (oMv rfl rfl) <| sq z6 (oBi rfl rfl rfl rfl) <| sq z6 (oMv rfl rfl) <| sgT z6 rfl rfl (byF iDec hc6) (oMv rfl rfl) <| sgT z6 rfl rfl (byF iDec hc6) (oMv rfl rfl) <| sgT z6 rfl rfl (byF iDec hc6) (oCa (xs := [.v false [.own 17 0 0], .v false [.own 14 0 0]]) (vs := [(false, [.im 0 _])]) (v := .v false [.im 0 _]) (L_laws_eqStepS hx77) (.inl rfl) rfl kF44_63_63 rfl (ppC rfl (ppC rfl pp0)) rfl rfl pb0 rfl rfl rfl) <| sgT z6 rfl rfl (byF iDec hc6) (oUn rfl rfl rfl) <| sq z6 (oPkF rfl rfl (byF iDec hc6) rfl) <| sq z6 (oMv rfl rfl) <| sgF rfl rfl (nT (byF Iff.rfl hc7)) rfl <| sgF rfl rfl (nT (byF Iff.rfl hc7)) rfl <| sgF rfl rfl (nT (byF Iff.rfl hc7)) rfl <| sq z6 (oPkT rfl rfl (nT (byF Iff.rfl hc7)) rfl) <| nl, (by kernel_rfl)⟩
            · refine Unw.seq ?_
              by_cases hc8 : t_84_m16 = true
              · rw [if_pos hc8] at h
                refine Go.condT rfl (Iff.rfl.2 hc8) ?_
                refine Go.seq ?_
                refine Go.r0 c6 rfl rfl (sq z6 (oAsI rfl rfl) <| nl) ?_
                refine Unw.seq ?_
                refine Go.ret (Unw.ret ?_)
                cases h
                exact Fin_ret (fin_of rfl rF6 rfl (by kernel_rfl))
              · rw [if_neg hc8] at h
                refine Go.condF rfl (byF Iff.rfl hc8) ?_
                refine Go.skip ?_
                refine Unw.seq ?_
                refine Go.seq ?_
                refine Go.r0 c6 rfl rfl (sq z6 (oAsI rfl rfl) <| nl) ?_
                refine Unw.seq ?_
                refine Go.seq ?_
                obtain ⟨x87, hx87, h⟩ := bs h
                refine Go.r0 c6 rfl rfl (sq z6 (oMv rfl rfl) <| sq z6 (oMv rfl rfl) <| sq z6 (oCa (xs := [.v false [.own 17 0 0], .v false [.im 0 _]]) (vs := [(false, [.im 0 _])]) (v := .v false [.im 0 _]) (L_laws_markStepS hx87) (.inl rfl) rfl kF45_63_3 rfl (ppC rfl (ppC rfl pp0)) rfl rfl (pbO rfl rfl rfl rfl pb0) rfl rfl rfl) <| sq z6 (oAsI rfl rfl) <| nl) ?_
                refine Unw.seq ?_
                refine Go.seq ?_
                refine Go.r1 c6 rfl rfl (st1 := mk [(0, sv aSpecies_0), (1, iv aShade_1), (2, iv aTarget_2), (3, iv aTolerance_3), (4, .v false [.im 2 (.row 3 (List.map e_S_Step aMenu_4))]), (5, iv aBudget_5), (14, .v false [.own 14 0 0]), (15, iv x40.2), (17, .v false [.own 17 0 0]), (20, iv x87.1)] [(14, some ⟨0, 0, false, false, false, false, [⟨.sh, 0, 0, .row 3 (List.map e_S_Step x40.1)⟩]⟩), (17, some ⟨0, 0, false, false, false, false, [⟨.sh, 0, 0, .row 3 (List.map e_S_Step x87.2)⟩]⟩)]) (by kernel_rfl) (sq z6 (oAsI rfl rfl) <| nl) ?_
                refine Unw.seq ?_
                refine Go.seq ?_
                obtain ⟨x90, hx90, h⟩ := bs h
                refine Go.r0 c6 rfl rfl (sq z6 (oMv rfl rfl) <| sq z6 (oMv rfl rfl) <| sq z6 (oCa (xs := [.v false [.own 17 0 0], .v false [.im 0 _]]) (vs := [(false, [.im 0 _])]) (v := .v false [.im 0 _]) (L_laws_heldStepS hx90) (.inl rfl) rfl kF46_63_3 rfl (ppC rfl (ppC rfl pp0)) rfl rfl pb0 rfl rfl rfl) <| sq z6 (oAsI rfl rfl) <| nl) ?_
                refine Unw.seq ?_
                refine Go.seq ?_
                refine Go.seq ?_
                refine Go.r0 c6 rfl rfl (sq z6 (oMv rfl rfl) <| sq z6 (oBi rfl rfl rfl rfl) <| nl) ?_
                refine Unw.seq ?_
                by_cases hc9 : x90 < 0
                · rw [if_pos hc9] at h
                  refine Go.condT rfl (iDec.2 hc9) ?_
                  refine Go.seq ?_
                  refine Go.r0 c6 rfl rfl (sq z6 (oAsI rfl rfl) <| nl) ?_
                  refine Unw.seq ?_
                  refine Go.ret (Unw.ret ?_)
                  cases h
                  exact Fin_ret (fin_of rfl rF6 rfl (by kernel_rfl))
                · rw [if_neg hc9] at h
                  refine Go.condF rfl (byF iDec hc9) ?_
                  refine Go.skip ?_
                  refine Unw.seq ?_
                  refine Go.seq ?_
                  refine Go.seq ?_
                  refine Go.r0 c6 rfl rfl (sq z6 (oMv rfl rfl) <| sq z6 (oMv rfl rfl) <| sq z6 (oBi rfl rfl rfl rfl) <| nl) ?_
                  refine Unw.seq ?_
                  by_cases hc10 : x90 ≠ x87.1
                  · rw [if_pos hc10] at h
                    refine Go.condT rfl (iNe.2 hc10) ?_
                    refine Go.seq ?_
                    refine Go.r0 c6 rfl rfl (sq z6 (oAsI rfl rfl) <| nl) ?_
                    refine Unw.seq ?_
                    refine Go.ret (Unw.ret ?_)
                    cases h
                    exact Fin_ret (fin_of rfl rF6 rfl (by kernel_rfl))
                  · rw [if_neg hc10] at h
                    refine Go.condF rfl (byF iNe hc10) ?_
                    refine Go.skip ?_
                    refine Unw.seq ?_
                    refine Go.seq ?_
                    obtain ⟨x102, hx102, h⟩ := bs h
                    obtain ⟨x104, hx104, h⟩ := bs h
                    refine Go.r0 c6 rfl rfl (sq z6 (oMv rfl rfl) <| sq z6 (oMv rfl rfl) <| sq z6 (oMv rfl rfl) <| sq z6 (oMv rfl rfl) <| sq z6 (oMv rfl rfl) <| sq z6 (oCr (xs := [.v false [.im 2 _]]) (vs := [(false, [.own 102 0 0])]) (v := .v false [.own 102 0 0]) (c := ⟨.sh, 0, _⟩) (cs := []) (L_laws_toStepS hx102) (.inl rfl) rfl kF42_61 rfl (ppC rfl pp0) rfl rfl pb0 rfl rfl rfl) <| sq z6 (oMv rfl rfl) <| sq z6 (oCr (xs := [.v false [.im 0 _], .v false [.im 0 _], .v false [.im 0 _], .v false [.im 0 _], .v false [.own 102 0 0], .v false [.im 0 _]]) (vs := [(false, [.own 104 0 0]), (false, [.im 0 _])]) (v := .tup [(false, [.own 104 0 0]), (false, [.im 0 _])]) (c := ⟨.sh, 0, _⟩) (cs := []) (L_impl_FewestSteps hx104) (.inl rfl) rfl kF43_9_2_2_2_63_2 rfl (ppC rfl (ppC rfl (ppC rfl (ppC rfl (ppC rfl (ppC rfl pp0)))))) rfl rfl pb0 rfl rfl rfl) <| sq z6 (oMvT rfl rfl) <| sq z6 (oEx rfl rfl rfl) <| sq z6 (oEx rfl rfl rfl) <| sq z6 (oAsO rfl rfl rfl rfl rfl) <| sq z6 (oAsI rfl rfl) <| nl) ?_
                    refine Unw.seq ?_
                    refine Go.seq ?_
                    refine Go.seq ?_
                    obtain ⟨x109, hx109, h⟩ := bs h
                    refine Go.rX c6 rfl rfl rfl (mk [(17, .v false [.own 17 0 0]), (20, iv x87.1), (115, bv ((!x109) || (x104.2 != x40.2)))] [(17, some ⟨0, 0, false, false, false, false, [⟨.sh, 0, 0, .row 3 (List.map e_S_Step x87.2)⟩]⟩)]) ?_ ?_
                    · by_cases hc11 : x109 = true
                      · exact ⟨_, sq z6 (oMv rfl rfl) <| sq z6 (oMv rfl rfl) <| sq z6 (oCa (xs := [.v false [.own 22 0 0], .v false [.own 14 0 0]]) (vs := [(false, [.im 0 _])]) (v := .v false [.im 0 _]) (L_laws_eqStepS hx109) (.inl rfl) rfl kF44_63_63 rfl (ppC rfl (ppC rfl pp0)) rfl rfl pb0 rfl rfl rfl) <| sq z6 (oUn rfl rfl rfl) <| sq z6 (oMv rfl rfl) <| sgT z6 rfl rfl (nF (Iff.rfl.2 hc11)) (oMv rfl rfl) <| sgT z6 rfl rfl (nF (Iff.rfl.2 hc11)) (oMv rfl rfl) <| sgT z6 rfl rfl (nF (Iff.rfl.2 hc11)) (oBi rfl rfl rfl rfl) <| sq z6 (oPkF rfl rfl (nF (Iff.rfl.2 hc11)) rfl) <| nl, (Eq.trans (b := (fun t_115_m27 : Bool => mk [(17, .v false [.own 17 0 0]), (20, iv x87.1), (115, bv t_115_m27)] [(17, some ⟨0, 0, false, false, false, false, [⟨.sh, 0, 0, .row 3 (List.map e_S_Step x87.2)⟩]⟩)]) (x104.2 != x40.2)) (by kernel_rfl) (congrArg (fun t_115_m27 : Bool => mk [(17, .v false [.own 17 0 0]), (20, iv x87.1), (115, bv t_115_m27)] [(17, some ⟨0, 0, false, false, false, false, [⟨.sh, 0, 0, .row 3 (List.map e_S_Step x87.2)⟩]⟩)]) (by first | rfl | simp [(Iff.rfl.2 hc11)])))⟩
                      · exact ⟨_, sq z6 (oMv rfl rfl) <| sq z6 (oMv rfl rfl) <| sq z6 (oCa (xs := [.v false [.own 22 0 0], .v false [.own 14 0 0]]) (vs := [(false, [.im 0 _])]) (v := .v false [.im 0 _]) (L_laws_eqStepS hx109) (.inl rfl) rfl kF44_63_63 rfl (ppC rfl (ppC rfl pp0)) rfl rfl pb0 rfl rfl rfl) <| sq z6 (oUn rfl rfl rfl) <| sq z6 (oMv rfl rfl) <| sgF rfl rfl (nT (byF Iff.rfl hc11)) rfl <| sgF rfl rfl (nT (byF Iff.rfl hc11)) rfl <| sgF rfl rfl (nT (byF Iff.rfl hc11)) rfl <| sq z6 (oPkT rfl rfl (nT (byF Iff.rfl hc11)) rfl) <| nl, (Eq.trans (b := (fun t_115_m27 : Bool => mk [(17, .v false [.own 17 0 0]), (20, iv x87.1), (115, bv t_115_m27)] [(17, some ⟨0, 0, false, false, false, false, [⟨.sh, 0, 0, .row 3 (List.map e_S_Step x87.2)⟩]⟩)]) true) (by kernel_rfl) (congrArg (fun t_115_m27 : Bool => mk [(17, .v false [.own 17 0 0]), (20, iv x87.1), (115, bv t_115_m27)] [(17, some ⟨0, 0, false, false, false, false, [⟨.sh, 0, 0, .row 3 (List.map e_S_Step x87.2)⟩]⟩)]) (by first | rfl | simp [(byF Iff.rfl hc11)])))⟩
                    · refine Unw.seq ?_
                      by_cases hc12 : (¬ (x109 = true) ∨ x104.2 ≠ x40.2)
                      · rw [if_pos hc12] at h
                        refine Go.condT rfl ((iOr (iNot Iff.rfl) iNe).2 hc12) ?_
                        refine Go.seq ?_
                        refine Go.r0 c6 rfl rfl (sq z6 (oAsI rfl rfl) <| nl) ?_
                        refine Unw.seq ?_
                        refine Go.ret (Unw.ret ?_)
                        cases h
                        exact Fin_ret (fin_of rfl rF6 rfl (by kernel_rfl))
                      · rw [if_neg hc12] at h
                        refine Go.condF rfl (byF (iOr (iNot Iff.rfl) iNe) hc12) ?_
                        refine Go.skip ?_
                        refine Unw.seq ?_
                        refine Go.seq ?_
                        refine Go.r0 c6 rfl rfl (sq z6 (oAsI rfl rfl) <| nl) ?_
                        refine Unw.seq ?_
                        refine Go.seq ?_
                        obtain ⟨x118, hx118, h⟩ := bs h
                        refine Go.r0 c6 rfl rfl (sq z6 (oMv rfl rfl) <| sq z6 (oMv rfl rfl) <| sq z6 (oCa (xs := [.v false [.own 17 0 0], .v false [.im 0 _]]) (vs := [(false, [.im 0 _])]) (v := .v false [.im 0 _]) (L_laws_heldStepS hx118) (.inl rfl) rfl kF46_63_3 rfl (ppC rfl (ppC rfl pp0)) rfl rfl pb0 rfl rfl rfl) <| sq z6 (oAsI rfl rfl) <| nl) ?_
                        refine Unw.seq ?_
                        refine Go.seq ?_
                        refine Go.seq ?_
                        refine Go.r0 c6 rfl rfl (sq z6 (oMv rfl rfl) <| sq z6 (oBi rfl rfl rfl rfl) <| nl) ?_
                        refine Unw.seq ?_
                        by_cases hc13 : x118 < 0
                        · rw [if_pos hc13] at h
                          refine Go.condT rfl (iDec.2 hc13) ?_
                          refine Go.seq ?_
                          refine Go.r0 c6 rfl rfl (sq z6 (oAsI rfl rfl) <| nl) ?_
                          refine Unw.seq ?_
                          refine Go.ret (Unw.ret ?_)
                          cases h
                          exact Fin_ret (fin_of rfl rF6 rfl (by kernel_rfl))
                        · rw [if_neg hc13] at h
                          refine Go.condF rfl (byF iDec hc13) ?_
                          refine Go.skip ?_
                          refine Unw.seq ?_
                          refine Go.seq ?_
                          refine Go.seq ?_
                          refine Go.r0 c6 rfl rfl (sq z6 (oMv rfl rfl) <| sq z6 (oMv rfl rfl) <| sq z6 (oBi rfl rfl rfl rfl) <| nl) ?_
                          refine Unw.seq ?_
                          by_cases hc14 : x118 ≠ x87.1
                          · rw [if_pos hc14] at h
                            refine Go.condT rfl (iNe.2 hc14) ?_
                            refine Go.seq ?_
                            refine Go.r0 c6 rfl rfl (sq z6 (oAsI rfl rfl) <| nl) ?_
                            refine Unw.seq ?_
                            refine Go.ret (Unw.ret ?_)
                            cases h
                            exact Fin_ret (fin_of rfl rF6 rfl (by kernel_rfl))
                          · rw [if_neg hc14] at h
                            refine Go.condF rfl (byF iNe hc14) ?_
                            refine Go.skip ?_
                            refine Unw.seq ?_
                            refine Go.seq ?_
                            refine Go.r0 c6 rfl rfl (sq z6 (oAsI rfl rfl) <| nl) ?_
                            refine Unw.seq ?_
                            refine Go.ret (Unw.ret ?_)
                            cases h
                            exact Fin_ret (fin_of rfl rF6 rfl (by kernel_rfl))
          · rw [if_neg hc5] at h
            refine Go.condT rfl (nT (byF Iff.rfl hc5)) ?_
            refine Go.seq ?_
            refine Go.r0 c6 rfl rfl (sq z6 (oAsI rfl rfl) <| nl) ?_
            refine Unw.seq ?_
            refine Go.ret (Unw.ret ?_)
            cases h
            exact Fin_ret (fin_of rfl rF6 rfl (by kernel_rfl))
end
end Go.Proofs.Ytigjhjlkdamncaa
