/- The machine answers, at each function of the program that is reached, what its plain function answers: a further part. Conditions: none. -/
import Derived.Test.YtigjhjlkdamncaaTpoLa
namespace Go.Proofs.Ytigjhjlkdamncaa
open Go Go.Sim Go.Pw Go.Proofs
set_option linter.unusedVariables false
set_option linter.unusedSimpArgs false
set_option maxRecDepth 100000
set_option maxHeartbeats 4000000
noncomputable section

theorem L_laws_FnPolish {code_0 : (List Int)} {more_1 : (List Int)} {r : Bool} (h : laws_FnPolish code_0 more_1 = some r) : FL Try.prog cfg 3 [.im 2 false [.row 1 (List.map (eK .u8) code_0)], .im 2 false [.row 1 (List.map (eK .u8) more_1)]] = some ([(false, [.im 0 (.sc (.bool r))])], []) := by
  unfold laws_FnPolish at h
  refine FL_goS (A := [(0, .v false [.im 2 (.row 1 (List.map (eK .u8) code_0))]), (1, .v false [.im 2 (.row 1 (List.map (eK .u8) more_1))])]) (B := [(0, none), (1, none)]) (nt := 168) rfl rfl Try.func3 rfl rfl rfl rfl ?_
  refine Go.seq ?_
  refine Go.r0 c3 rfl rfl (sq z3 (oAsI rfl rfl) <| nl) ?_
  refine Unw.seq ?_
  refine Go.seq ?_
  refine Go.seq ?_
  obtain ⟨x25, hx25, h⟩ := bs h
  obtain ⟨t_29_m1, hm30, h⟩ := bs h
  refine Go.rX c3 rfl rfl rfl (mk [(0, .v false [.im 2 (.row 1 (List.map (eK .u8) code_0))]), (1, .v false [.im 2 (.row 1 (List.map (eK .u8) more_1))]), (29, bv t_29_m1)] []) ?_ ?_
  · by_cases hc1 : x25 = true
    · rw [if_pos hc1] at hm30
      cases hm30
      exact ⟨_, sq z3 (oMv rfl rfl) <| sq z3 (oCa (xs := [.v false [.im 2 _]]) (vs := [(false, [.im 0 _])]) (v := .v false [.im 0 _]) (L_laws_b10Long hx25) (.inl rfl) rfl kF14_22 rfl (ppC rfl pp0) rfl rfl pb0 rfl rfl rfl) <| sq z3 (oMv rfl rfl) <| sgF rfl rfl (Iff.rfl.2 hc1) rfl <| sgF rfl rfl (Iff.rfl.2 hc1) rfl <| sq z3 (oPkT rfl rfl (Iff.rfl.2 hc1) rfl) <| nl, (by kernel_rfl)⟩
    · rw [if_neg hc1] at hm30
      obtain ⟨x28, hx28, hm30⟩ := bs hm30
      cases hm30
      exact ⟨_, sq z3 (oMv rfl rfl) <| sq z3 (oCa (xs := [.v false [.im 2 _]]) (vs := [(false, [.im 0 _])]) (v := .v false [.im 0 _]) (L_laws_b10Long hx25) (.inl rfl) rfl kF14_22 rfl (ppC rfl pp0) rfl rfl pb0 rfl rfl rfl) <| sq z3 (oMv rfl rfl) <| sgT z3 rfl rfl (byF Iff.rfl hc1) (oMv rfl rfl) <| sgT z3 rfl rfl (byF Iff.rfl hc1) (oCa (xs := [.v false [.im 2 _]]) (vs := [(false, [.im 0 _])]) (v := .v false [.im 0 _]) (L_laws_b10Long hx28) (.inl rfl) rfl kF14_22 rfl (ppC rfl pp0) rfl rfl pb0 rfl rfl rfl) <| sq z3 (oPkF rfl rfl (byF Iff.rfl hc1) rfl) <| nl, (by kernel_rfl)⟩
  · refine Unw.seq ?_
    by_cases hc2 : t_29_m1 = true
    · rw [if_pos hc2] at h
      refine Go.condT rfl (Iff.rfl.2 hc2) ?_
      refine Go.seq ?_
      refine Go.r0 c3 rfl rfl (sq z3 (oAsI rfl rfl) <| nl) ?_
      refine Unw.seq ?_
      refine Go.ret (Unw.ret ?_)
      cases h
      exact Fin_ret (fin_of rfl rF3 rfl (by kernel_rfl))
    · rw [if_neg hc2] at h
      refine Go.condF rfl (byF Iff.rfl hc2) ?_
      refine Go.skip ?_
      refine Unw.seq ?_
      refine Go.seq ?_
      obtain ⟨x32, hx32, h⟩ := bs h
      refine Go.r0 c3 rfl rfl (sq z3 (oMv rfl rfl) <| sq z3 (oCr (xs := [.v false [.im 2 _]]) (vs := [(false, [.own 32 0 0]), (false, [.im 0 _]), (false, [.im 0 _]), (false, [.im 0 _]), (false, [.im 0 _])]) (v := .tup [(false, [.own 32 0 0]), (false, [.im 0 _]), (false, [.im 0 _]), (false, [.im 0 _]), (false, [.im 0 _])]) (c := ⟨.sh, 0, _⟩) (cs := []) (L_spec_DrawFirstCoatPlan hx32) (.inl rfl) rfl kF15_22 rfl (ppC rfl pp0) rfl rfl pb0 rfl rfl rfl) <| sq z3 (oMvT rfl rfl) <| sq z3 (oEx rfl rfl rfl) <| sq z3 (oEx rfl rfl rfl) <| sq z3 (oEx rfl rfl rfl) <| sq z3 (oEx rfl rfl rfl) <| sq z3 (oEx rfl rfl rfl) <| sq z3 (oAsO rfl rfl rfl rfl rfl) <| sq z3 (oAsI rfl rfl) <| sq z3 (oAsI rfl rfl) <| sq z3 (oAsI rfl rfl) <| sq z3 (oAsI rfl rfl) <| nl) ?_
      refine Unw.seq ?_
      refine Go.seq ?_
      obtain ⟨x43, hx43, h⟩ := bs h
      refine Go.r0 c3 rfl rfl (sq z3 (oMv rfl rfl) <| sq z3 (oMv rfl rfl) <| sq z3 (oMv rfl rfl) <| sq z3 (oMv rfl rfl) <| sq z3 (oCr (xs := [.v false [.own 5 0 0], .v false [.im 0 _], .v false [.im 0 _], .v false [.im 0 _]]) (vs := [(false, [.own 43 0 0]), (false, [.im 0 _])]) (v := .tup [(false, [.own 43 0 0]), (false, [.im 0 _])]) (c := ⟨.sh, 0, _⟩) (cs := []) (L_impl_EarlyPlan hx43) (.inl rfl) rfl kF16_24_2_2_2 rfl (ppC rfl (ppC rfl (ppC rfl (ppC rfl pp0)))) rfl rfl pb0 rfl rfl rfl) <| sq z3 (oMvT rfl rfl) <| sq z3 (oEx rfl rfl rfl) <| sq z3 (oEx rfl rfl rfl) <| sq z3 (oAsO rfl rfl rfl rfl rfl) <| sq z3 (oAsI rfl rfl) <| nl) ?_
      refine Unw.seq ?_
      refine Go.seq ?_
      obtain ⟨x52, hx52, h⟩ := bs h
      refine Go.r0 c3 rfl rfl (sq z3 (oMv rfl rfl) <| sq z3 (oMv rfl rfl) <| sq z3 (oMv rfl rfl) <| sq z3 (oMv rfl rfl) <| sq z3 (oMv rfl rfl) <| sq z3 (oCr (xs := [.v false [.own 5 0 0], .v false [.im 0 _], .v false [.im 0 _], .v false [.im 0 _], .v false [.im 0 _]]) (vs := [(false, [.own 52 0 0]), (false, [.im 0 _])]) (v := .tup [(false, [.own 52 0 0]), (false, [.im 0 _])]) (c := ⟨.sh, 0, _⟩) (cs := []) (L_impl_FirstCoatPlan hx52) (.inl rfl) rfl kF17_24_2_2_2_2 rfl (ppC rfl (ppC rfl (ppC rfl (ppC rfl (ppC rfl pp0))))) rfl rfl pb0 rfl rfl rfl) <| sq z3 (oMvT rfl rfl) <| sq z3 (oEx rfl rfl rfl) <| sq z3 (oEx rfl rfl rfl) <| sq z3 (oAsO rfl rfl rfl rfl rfl) <| sq z3 (oAsI rfl rfl) <| nl) ?_
      refine Unw.seq ?_
      refine Go.seq ?_
      refine Go.seq ?_
      obtain ⟨t_78_m6, hm29, h⟩ := bs h
      refine Go.rX c3 rfl rfl rfl (mk [(1, .v false [.im 2 (.row 1 (List.map (eK .u8) more_1))]), (5, .v false [.own 5 0 0]), (6, iv x32.2.1), (10, .v false [.own 10 0 0]), (11, iv x43.2), (12, .v false [.own 12 0 0]), (13, iv x52.2), (78, bv t_78_m6)] [(5, some ⟨0, 0, false, false, false, false, [⟨.sh, 0, 0, .row 4 (List.map e_S_Coat x32.1)⟩]⟩), (10, some ⟨0, 0, false, false, false, false, [⟨.sh, 0, 0, .row 1 (List.map eI x43.1)⟩]⟩), (12, some ⟨0, 0, false, false, false, false, [⟨.sh, 0, 0, .row 1 (List.map eI x52.1)⟩]⟩)]) ?_ ?_
      · by_cases hc3 : x43.2 = 0
        · rw [if_pos hc3] at hm29
          obtain ⟨x63, hx63, hm29⟩ := bs hm29
          by_cases hc4 : x63 = true
          · rw [if_pos hc4] at hm29
            by_cases hc5 : x52.2 = 0
            · rw [if_pos hc5] at hm29
              obtain ⟨x75, hx75, hm29⟩ := bs hm29
              cases hm29
              exact ⟨_, sq z3 (oMv rfl rfl) <| sq z3 (oBi rfl rfl rfl rfl) <| sq z3 (oMv rfl rfl) <| sgT z3 rfl rfl (iEq.2 hc3) (oMv rfl rfl) <| sgT z3 rfl rfl (iEq.2 hc3) (oMv rfl rfl) <| sgT z3 rfl rfl (iEq.2 hc3) (oMv rfl rfl) <| sgT z3 rfl rfl (iEq.2 hc3) (oMv rfl rfl) <| sgT z3 rfl rfl (iEq.2 hc3) (oMv rfl rfl) <| sgT z3 rfl rfl (iEq.2 hc3) (oCa (xs := [.v false [.own 5 0 0], .v false [.own 10 0 0], .v false [.im 0 _], .v false [.im 0 _], .v false [.im 0 _]]) (vs := [(false, [.im 0 _])]) (v := .v false [.im 0 _]) (L_impl_IsCoatPlan hx63) (.inl rfl) rfl kF18_24_27_2_2_2 rfl (ppC rfl (ppC rfl (ppC rfl (ppC rfl (ppC rfl pp0))))) rfl rfl pb0 rfl rfl rfl) <| sgT z3 rfl rfl (iEq.2 hc3) (oUn rfl rfl rfl) <| sq z3 (oPkT rfl rfl (iEq.2 hc3) rfl) <| sq z3 (oMv rfl rfl) <| sgT z3 rfl rfl (nF (Iff.rfl.2 hc4)) (oMv rfl rfl) <| sgT z3 rfl rfl (nF (Iff.rfl.2 hc4)) (oBi rfl rfl rfl rfl) <| sgT z3 rfl rfl (nF (Iff.rfl.2 hc4)) (oMv rfl rfl) <| sgT z3 rfl rfl (iEq.2 hc5) (oMv rfl rfl) <| sgT z3 rfl rfl (iEq.2 hc5) (oMv rfl rfl) <| sgT z3 rfl rfl (iEq.2 hc5) (oMv rfl rfl) <| sgT z3 rfl rfl (iEq.2 hc5) (oMv rfl rfl) <| sgT z3 rfl rfl (iEq.2 hc5) (oMv rfl rfl) <| sgT z3 rfl rfl (iEq.2 hc5) (oCa (xs := [.v false [.own 5 0 0], .v false [.own 12 0 0], .v false [.im 0 _], .v false [.im 0 _], .v false [.im 0 _]]) (vs := [(false, [.im 0 _])]) (v := .v false [.im 0 _]) (L_impl_IsCoatPlan hx75) (.inl rfl) rfl kF18_24_27_2_2_2 rfl (ppC rfl (ppC rfl (ppC rfl (ppC rfl (ppC rfl pp0))))) rfl rfl pb0 rfl rfl rfl) <| sgT z3 rfl rfl (iEq.2 hc5) (oUn rfl rfl rfl) <| sgT z3 rfl rfl (nF (Iff.rfl.2 hc4)) (oPkT rfl rfl (iEq.2 hc5) rfl) <| sq z3 (oPkF rfl rfl (nF (Iff.rfl.2 hc4)) rfl) <| nl, (by kernel_rfl)⟩
            · rw [if_neg hc5] at hm29
              cases hm29
              exact ⟨_, sq z3 (oMv rfl rfl) <| sq z3 (oBi rfl rfl rfl rfl) <| sq z3 (oMv rfl rfl) <| sgT z3 rfl rfl (iEq.2 hc3) (oMv rfl rfl) <| sgT z3 rfl rfl (iEq.2 hc3) (oMv rfl rfl) <| sgT z3 rfl rfl (iEq.2 hc3) (oMv rfl rfl) <| sgT z3 rfl rfl (iEq.2 hc3) (oMv rfl rfl) <| sgT z3 rfl rfl (iEq.2 hc3) (oMv rfl rfl) <| sgT z3 rfl rfl (iEq.2 hc3) (oCa (xs := [.v false [.own 5 0 0], .v false [.own 10 0 0], .v false [.im 0 _], .v false [.im 0 _], .v false [.im 0 _]]) (vs := [(false, [.im 0 _])]) (v := .v false [.im 0 _]) (L_impl_IsCoatPlan hx63) (.inl rfl) rfl kF18_24_27_2_2_2 rfl (ppC rfl (ppC rfl (ppC rfl (ppC rfl (ppC rfl pp0))))) rfl rfl pb0 rfl rfl rfl) <| sgT z3 rfl rfl (iEq.2 hc3) (oUn rfl rfl rfl) <| sq z3 (oPkT rfl rfl (iEq.2 hc3) rfl) <| sq z3 (oMv rfl rfl) <| sgT z3 rfl rfl (nF (Iff.rfl.2 hc4)) (oMv rfl rfl) <| sgT z3 rfl rfl (nF (Iff.rfl.2 hc4)) (oBi rfl rfl rfl rfl) <| sgT z3 rfl rfl (nF (Iff.rfl.2 hc4)) (oMv rfl rfl) <| sgF rfl rfl (byF iEq hc5) rfl <| sgF rfl rfl (byF iEq hc5) rfl <| sgF rfl rfl (byF iEq hc5) rfl <| sgF rfl rfl (byF iEq hc5) rfl <| sgF rfl rfl (byF iEq hc5) rfl <| sgF rfl rfl (byF iEq hc5) rfl <| sgF rfl rfl (byF iEq hc5) rfl <| sgT z3 rfl rfl (nF (Iff.rfl.2 hc4)) (oPkF rfl rfl (byF iEq hc5) rfl) <| sq z3 (oPkF rfl rfl (nF (Iff.rfl.2 hc4)) rfl) <| nl, (by kernel_rfl)⟩
          · rw [if_neg hc4] at hm29
            cases hm29
            exact ⟨_, sq z3 (oMv rfl rfl) <| sq z3 (oBi rfl rfl rfl rfl) <| sq z3 (oMv rfl rfl) <| sgT z3 rfl rfl (iEq.2 hc3) (oMv rfl rfl) <| sgT z3 rfl rfl (iEq.2 hc3) (oMv rfl rfl) <| sgT z3 rfl rfl (iEq.2 hc3) (oMv rfl rfl) <| sgT z3 rfl rfl (iEq.2 hc3) (oMv rfl rfl) <| sgT z3 rfl rfl (iEq.2 hc3) (oMv rfl rfl) <| sgT z3 rfl rfl (iEq.2 hc3) (oCa (xs := [.v false [.own 5 0 0], .v false [.own 10 0 0], .v false [.im 0 _], .v false [.im 0 _], .v false [.im 0 _]]) (vs := [(false, [.im 0 _])]) (v := .v false [.im 0 _]) (L_impl_IsCoatPlan hx63) (.inl rfl) rfl kF18_24_27_2_2_2 rfl (ppC rfl (ppC rfl (ppC rfl (ppC rfl (ppC rfl pp0))))) rfl rfl pb0 rfl rfl rfl) <| sgT z3 rfl rfl (iEq.2 hc3) (oUn rfl rfl rfl) <| sq z3 (oPkT rfl rfl (iEq.2 hc3) rfl) <| sq z3 (oMv rfl rfl) <| sgF rfl rfl (nT (byF Iff.rfl hc4)) rfl <| sgF rfl rfl (nT (byF Iff.rfl hc4)) rfl <| sgF rfl rfl (nT (byF Iff.rfl hc4)) rfl <| sgU rfl rfl rfl <| sgU rfl rfl rfl <| sgU rfl rfl rfl <| sgU rfl rfl rfl <| sgU rfl rfl rfl <| sgU rfl rfl rfl <| sgU rfl rfl rfl <| sgF rfl rfl (nT (byF Iff.rfl hc4)) rfl <| sq z3 (oPkT rfl rfl (nT (byF Iff.rfl hc4)) rfl) <| nl, (by kernel_rfl)⟩
        · rw [if_neg hc3] at hm29
          by_cases hc6 : x52.2 = 0
          · rw [if_pos hc6] at hm29
            obtain ⟨x75, hx75, hm29⟩ := bs hm29
            cases hm29
            exact ⟨_, sq z3 (oMv rfl rfl) <| sq z3 (oBi rfl rfl rfl rfl) <| sq z3 (oMv rfl rfl) <| sgF rfl rfl (byF iEq hc3) rfl <| sgF rfl rfl (byF iEq hc3) rfl <| sgF rfl rfl (byF iEq hc3) rfl <| sgF rfl rfl (byF iEq hc3) rfl <| sgF rfl rfl (byF iEq hc3) rfl <| sgF rfl rfl (byF iEq hc3) rfl <| sgF rfl rfl (byF iEq hc3) rfl <| sq z3 (oPkF rfl rfl (byF iEq hc3) rfl) <| sq z3 (oMv rfl rfl) <| sgT z3 rfl rfl rfl (oMv rfl rfl) <| sgT z3 rfl rfl rfl (oBi rfl rfl rfl rfl) <| sgT z3 rfl rfl rfl (oMv rfl rfl) <| sgT z3 rfl rfl (iEq.2 hc6) (oMv rfl rfl) <| sgT z3 rfl rfl (iEq.2 hc6) (oMv rfl rfl) <| sgT z3 rfl rfl (iEq.2 hc6) (oMv rfl rfl) <| sgT z3 rfl rfl (iEq.2 hc6) (oMv rfl rfl) <| sgT z3 rfl rfl (iEq.2 hc6) (oMv rfl rfl) <| sgT z3 rfl rfl (iEq.2 hc6) (oCa (xs := [.v false [.own 5 0 0], .v false [.own 12 0 0], .v false [.im 0 _], .v false [.im 0 _], .v false [.im 0 _]]) (vs := [(false, [.im 0 _])]) (v := .v false [.im 0 _]) (L_impl_IsCoatPlan hx75) (.inl rfl) rfl kF18_24_27_2_2_2 rfl (ppC rfl (ppC rfl (ppC rfl (ppC rfl (ppC rfl pp0))))) rfl rfl pb0 rfl rfl rfl) <| sgT z3 rfl rfl (iEq.2 hc6) (oUn rfl rfl rfl) <| sgT z3 rfl rfl rfl (oPkT rfl rfl (iEq.2 hc6) rfl) <| sq z3 (oPkF rfl rfl rfl rfl) <| nl, (by kernel_rfl)⟩
          · rw [if_neg hc6] at hm29
            cases hm29
            exact ⟨_, sq z3 (oMv rfl rfl) <| sq z3 (oBi rfl rfl rfl rfl) <| sq z3 (oMv rfl rfl) <| sgF rfl rfl (byF iEq hc3) rfl <| sgF rfl rfl (byF iEq hc3) rfl <| sgF rfl rfl (byF iEq hc3) rfl <| sgF rfl rfl (byF iEq hc3) rfl <| sgF rfl rfl (byF iEq hc3) rfl <| sgF rfl rfl (byF iEq hc3) rfl <| sgF rfl rfl (byF iEq hc3) rfl <| sq z3 (oPkF rfl rfl (byF iEq hc3) rfl) <| sq z3 (oMv rfl rfl) <| sgT z3 rfl rfl rfl (oMv rfl rfl) <| sgT z3 rfl rfl rfl (oBi rfl rfl rfl rfl) <| sgT z3 rfl rfl rfl (oMv rfl rfl) <| sgF rfl rfl (byF iEq hc6) rfl <| sgF rfl rfl (byF iEq hc6) rfl <| sgF rfl rfl (byF iEq hc6) rfl <| sgF rfl rfl (byF iEq hc6) rfl <| sgF rfl rfl (byF iEq hc6) rfl <| sgF rfl rfl (byF iEq hc6) rfl <| sgF rfl rfl (byF iEq hc6) rfl <| sgT z3 rfl rfl rfl (oPkF rfl rfl (byF iEq hc6) rfl) <| sq z3 (oPkF rfl rfl rfl rfl) <| nl, (by kernel_rfl)⟩
      · refine Unw.seq ?_
        by_cases hc7 : t_78_m6 = true
        · rw [if_pos hc7] at h
          refine Go.condT rfl (Iff.rfl.2 hc7) ?_
          refine Go.seq ?_
          refine Go.r0 c3 rfl rfl (sq z3 (oAsI rfl rfl) <| nl) ?_
          refine Unw.seq ?_
          refine Go.ret (Unw.ret ?_)
          cases h
          exact Fin_ret (fin_of rfl rF3 rfl (by kernel_rfl))
        · rw [if_neg hc7] at h
          refine Go.condF rfl (byF Iff.rfl hc7) ?_
          refine Go.skip ?_
          refine Unw.seq ?_
          refine Go.seq ?_
          refine Go.seq ?_
          obtain ⟨t_94_m8, hm28, h⟩ := bs h
          refine Go.rX c3 rfl rfl rfl (mk [(1, .v false [.im 2 (.row 1 (List.map (eK .u8) more_1))]), (5, .v false [.own 5 0 0]), (6, iv x32.2.1), (12, .v false [.own 12 0 0]), (13, iv x52.2), (94, bv t_94_m8)] [(5, some ⟨0, 0, false, false, false, false, [⟨.sh, 0, 0, .row 4 (List.map e_S_Coat x32.1)⟩]⟩), (12, some ⟨0, 0, false, false, false, false, [⟨.sh, 0, 0, .row 1 (List.map eI x52.1)⟩]⟩)]) ?_ ?_
          · by_cases hc8 : x43.2 = 0
            · rw [if_pos hc8] at hm28
              by_cases hc9 : x52.2 = 3
              · rw [if_pos hc9] at hm28
                cases hm28
                exact ⟨_, sq z3 (oMv rfl rfl) <| sq z3 (oBi rfl rfl rfl rfl) <| sq z3 (oMv rfl rfl) <| sgT z3 rfl rfl (iEq.2 hc8) (oMv rfl rfl) <| sgT z3 rfl rfl (iEq.2 hc8) (oBi rfl rfl rfl rfl) <| sgT z3 rfl rfl (iEq.2 hc8) (oMv rfl rfl) <| sgF rfl rfl (iEq.2 hc9) rfl <| sgF rfl rfl (iEq.2 hc9) rfl <| sgF rfl rfl (iEq.2 hc9) rfl <| sgU rfl rfl rfl <| sgU rfl rfl rfl <| sgU rfl rfl rfl <| sgU rfl rfl rfl <| sgF rfl rfl (iEq.2 hc9) rfl <| sgT z3 rfl rfl (iEq.2 hc8) (oPkT rfl rfl (iEq.2 hc9) rfl) <| sq z3 (oPkT rfl rfl (iEq.2 hc8) rfl) <| nl, (by kernel_rfl)⟩
              · rw [if_neg hc9] at hm28
                by_cases hc10 : x52.2 = 0
                · rw [if_pos hc10] at hm28
                  obtain ⟨x90, hx90, hm28⟩ := bs hm28
                  cases hm28
                  exact ⟨_, sq z3 (oMv rfl rfl) <| sq z3 (oBi rfl rfl rfl rfl) <| sq z3 (oMv rfl rfl) <| sgT z3 rfl rfl (iEq.2 hc8) (oMv rfl rfl) <| sgT z3 rfl rfl (iEq.2 hc8) (oBi rfl rfl rfl rfl) <| sgT z3 rfl rfl (iEq.2 hc8) (oMv rfl rfl) <| sgT z3 rfl rfl (byF iEq hc9) (oMv rfl rfl) <| sgT z3 rfl rfl (byF iEq hc9) (oBi rfl rfl rfl rfl) <| sgT z3 rfl rfl (byF iEq hc9) (oMv rfl rfl) <| sgT z3 rfl rfl (iEq.2 hc10) (oMv rfl rfl) <| sgT z3 rfl rfl (iEq.2 hc10) (oMv rfl rfl) <| sgT z3 rfl rfl (iEq.2 hc10) (oCa (xs := [.v false [.own 12 0 0], .v false [.own 10 0 0]]) (vs := [(false, [.im 0 _])]) (v := .v false [.im 0 _]) (L_laws_b10Nums hx90) (.inl rfl) rfl kF19_27_27 rfl (ppC rfl (ppC rfl pp0)) rfl rfl pb0 rfl rfl rfl) <| sgT z3 rfl rfl (iEq.2 hc10) (oUn rfl rfl rfl) <| sgT z3 rfl rfl (byF iEq hc9) (oPkT rfl rfl (iEq.2 hc10) rfl) <| sgT z3 rfl rfl (iEq.2 hc8) (oPkF rfl rfl (byF iEq hc9) rfl) <| sq z3 (oPkT rfl rfl (iEq.2 hc8) rfl) <| nl, (by kernel_rfl)⟩
                · rw [if_neg hc10] at hm28
                  cases hm28
                  exact ⟨_, sq z3 (oMv rfl rfl) <| sq z3 (oBi rfl rfl rfl rfl) <| sq z3 (oMv rfl rfl) <| sgT z3 rfl rfl (iEq.2 hc8) (oMv rfl rfl) <| sgT z3 rfl rfl (iEq.2 hc8) (oBi rfl rfl rfl rfl) <| sgT z3 rfl rfl (iEq.2 hc8) (oMv rfl rfl) <| sgT z3 rfl rfl (byF iEq hc9) (oMv rfl rfl) <| sgT z3 rfl rfl (byF iEq hc9) (oBi rfl rfl rfl rfl) <| sgT z3 rfl rfl (byF iEq hc9) (oMv rfl rfl) <| sgF rfl rfl (byF iEq hc10) rfl <| sgF rfl rfl (byF iEq hc10) rfl <| sgF rfl rfl (byF iEq hc10) rfl <| sgF rfl rfl (byF iEq hc10) rfl <| sgT z3 rfl rfl (byF iEq hc9) (oPkF rfl rfl (byF iEq hc10) rfl) <| sgT z3 rfl rfl (iEq.2 hc8) (oPkF rfl rfl (byF iEq hc9) rfl) <| sq z3 (oPkT rfl rfl (iEq.2 hc8) rfl) <| nl, (by kernel_rfl)⟩
            · rw [if_neg hc8] at hm28
              cases hm28
              exact ⟨_, sq z3 (oMv rfl rfl) <| sq z3 (oBi rfl rfl rfl rfl) <| sq z3 (oMv rfl rfl) <| sgF rfl rfl (byF iEq hc8) rfl <| sgF rfl rfl (byF iEq hc8) rfl <| sgF rfl rfl (byF iEq hc8) rfl <| sgU rfl rfl rfl <| sgU rfl rfl rfl <| sgU rfl rfl rfl <| sgU rfl rfl rfl <| sgU rfl rfl rfl <| sgU rfl rfl rfl <| sgU rfl rfl rfl <| sgU rfl rfl rfl <| sgF rfl rfl (byF iEq hc8) rfl <| sq z3 (oPkF rfl rfl (byF iEq hc8) rfl) <| nl, (by kernel_rfl)⟩
          · refine Unw.seq ?_
            by_cases hc11 : t_94_m8 = true
            · rw [if_pos hc11] at h
              refine Go.condT rfl (Iff.rfl.2 hc11) ?_
              refine Go.seq ?_
              refine Go.r0 c3 rfl rfl (sq z3 (oAsI rfl rfl) <| nl) ?_
              refine Unw.seq ?_
              refine Go.ret (Unw.ret ?_)
              cases h
              exact Fin_ret (fin_of rfl rF3 rfl (by kernel_rfl))
            · rw [if_neg hc11] at h
              refine Go.condF rfl (byF Iff.rfl hc11) ?_
              refine Go.skip ?_
              refine Unw.seq ?_
              refine Go.seq ?_
              refine Go.seq ?_
              refine Go.r0 c3 rfl rfl (sq z3 (oMv rfl rfl) <| sq z3 (oBi rfl rfl rfl rfl) <| nl) ?_
              refine Unw.seq ?_
              refine Go.join (fun st => laws_FnPolish_k15 more_1 = some r ∧ st.norm ([1], []) = mk [(1, .v false [.im 2 (.row 1 (List.map (eK .u8) more_1))])] []) ?_ ?_
              · rintro st ⟨h, hst⟩
                unfold laws_FnPolish_k15 at h
                refine Unw.seq ?_
                refine Go.seq ?_
                obtain ⟨x128, hx128, h⟩ := bs h
                refine Go.r1 c3 rfl rfl hst (sq z3 (oMv rfl rfl) <| sq z3 (oCa (xs := [.v false [.im 2 _]]) (vs := [(false, [.im 0 _]), (false, [.im 0 _]), (false, [.im 0 _]), (false, [.im 0 _])]) (v := .tup [(false, [.im 0 _]), (false, [.im 0 _]), (false, [.im 0 _]), (false, [.im 0 _])]) (L_spec_DrawNextOpen hx128) (.inl rfl) rfl kF22_22 rfl (ppC rfl pp0) rfl rfl pb0 rfl rfl rfl) <| sq z3 (oMvT rfl rfl) <| sq z3 (oEx rfl rfl rfl) <| sq z3 (oEx rfl rfl rfl) <| sq z3 (oEx rfl rfl rfl) <| sq z3 (oEx rfl rfl rfl) <| sq z3 (oAsI rfl rfl) <| sq z3 (oAsI rfl rfl) <| sq z3 (oAsI rfl rfl) <| sq z3 (oAsI rfl rfl) <| nl) ?_
                refine Unw.seq ?_
                refine Go.seq ?_
                obtain ⟨x138, hx138, h⟩ := bs h
                refine Go.r0 c3 rfl rfl (sq z3 (oMv rfl rfl) <| sq z3 (oMv rfl rfl) <| sq z3 (oMv rfl rfl) <| sq z3 (oMv rfl rfl) <| sq z3 (oCa (xs := [.v false [.im 0 _], .v false [.im 0 _], .v false [.im 0 _], .v false [.im 0 _]]) (vs := [(false, [.im 0 _]), (false, [.im 0 _])]) (v := .tup [(false, [.im 0 _]), (false, [.im 0 _])]) (L_impl_NextOpen hx138) (.inl rfl) rfl kF23_2_2_2_2 rfl (ppC rfl (ppC rfl (ppC rfl (ppC rfl pp0)))) rfl rfl pb0 rfl rfl rfl) <| sq z3 (oMvT rfl rfl) <| sq z3 (oEx rfl rfl rfl) <| sq z3 (oEx rfl rfl rfl) <| sq z3 (oAsI rfl rfl) <| sq z3 (oAsI rfl rfl) <| nl) ?_
                refine Unw.seq ?_
                refine Go.seq ?_
                refine Go.seq ?_
                refine Go.r0 c3 rfl rfl (sq z3 (oMv rfl rfl) <| sq z3 (oBi rfl rfl rfl rfl) <| nl) ?_
                refine Unw.seq ?_
                by_cases hc17 : x138.2 ≠ 0
                · rw [if_pos hc17] at h
                  refine Go.condT rfl (iNe.2 hc17) ?_
                  refine Go.seq ?_
                  refine Go.r0 c3 rfl rfl (sq z3 (oMv rfl rfl) <| sq z3 (oBi rfl rfl rfl rfl) <| sq z3 (oAsI rfl rfl) <| nl) ?_
                  refine Unw.seq ?_
                  refine Go.ret (Unw.ret ?_)
                  cases h
                  exact Fin_ret (fin_of rfl rF3 rfl (by kernel_rfl))
                · rw [if_neg hc17] at h
                  refine Go.condF rfl (byF iNe hc17) ?_
                  refine Go.skip ?_
                  refine Unw.seq ?_
                  refine Go.seq ?_
                  obtain ⟨t_4_m19, hm21, h⟩ := bs h
                  refine Go.rX c3 rfl rfl rfl (mk [(4, bv t_4_m19)] []) ?_ ?_
                  · by_cases hc18 : x138.1 ≥ x128.1
                    · rw [if_pos hc18] at hm21
                      by_cases hc19 : x138.1 < (w64 (x128.1 + 192))
                      · rw [if_pos hc19] at hm21
                        obtain ⟨x156, hx156, hm21⟩ := bs hm21
                        by_cases hc20 : x156 ≥ x128.2.1
                        · rw [if_pos hc20] at hm21
                          obtain ⟨x162, hx162, hm21⟩ := bs hm21
                          cases hm21
                          exact ⟨_, sq z3 (oMv rfl rfl) <| sq z3 (oMv rfl rfl) <| sq z3 (oBi rfl rfl rfl rfl) <| sq z3 (oMv rfl rfl) <| sgT z3 rfl rfl (iDec.2 hc18) (oMv rfl rfl) <| sgT z3 rfl rfl (iDec.2 hc18) (oMv rfl rfl) <| sgT z3 rfl rfl (iDec.2 hc18) (oBi rfl rfl rfl rfl) <| sgT z3 rfl rfl (iDec.2 hc18) (oBi rfl rfl rfl rfl) <| sq z3 (oPkT rfl rfl (iDec.2 hc18) rfl) <| sq z3 (oMv rfl rfl) <| sgT z3 rfl rfl (iDec.2 hc19) (oMv rfl rfl) <| sgT z3 rfl rfl (iDec.2 hc19) (oRem rfl hx156 rfl rfl) <| sgT z3 rfl rfl (iDec.2 hc19) (oMv rfl rfl) <| sgT z3 rfl rfl (iDec.2 hc19) (oBi rfl rfl rfl rfl) <| sq z3 (oPkT rfl rfl (iDec.2 hc19) rfl) <| sq z3 (oMv rfl rfl) <| sgT z3 rfl rfl (iDec.2 hc20) (oMv rfl rfl) <| sgT z3 rfl rfl (iDec.2 hc20) (oRem rfl hx162 rfl rfl) <| sgT z3 rfl rfl (iDec.2 hc20) (oMv rfl rfl) <| sgT z3 rfl rfl (iDec.2 hc20) (oBi rfl rfl rfl rfl) <| sgT z3 rfl rfl (iDec.2 hc20) (oMv rfl rfl) <| sgT z3 rfl rfl (iDec.2 hc20) (oBi rfl rfl rfl rfl) <| sq z3 (oPkT rfl rfl (iDec.2 hc20) rfl) <| sq z3 (oAsI rfl rfl) <| nl, (by kernel_rfl)⟩
                        · rw [if_neg hc20] at hm21
                          cases hm21
                          exact ⟨_, sq z3 (oMv rfl rfl) <| sq z3 (oMv rfl rfl) <| sq z3 (oBi rfl rfl rfl rfl) <| sq z3 (oMv rfl rfl) <| sgT z3 rfl rfl (iDec.2 hc18) (oMv rfl rfl) <| sgT z3 rfl rfl (iDec.2 hc18) (oMv rfl rfl) <| sgT z3 rfl rfl (iDec.2 hc18) (oBi rfl rfl rfl rfl) <| sgT z3 rfl rfl (iDec.2 hc18) (oBi rfl rfl rfl rfl) <| sq z3 (oPkT rfl rfl (iDec.2 hc18) rfl) <| sq z3 (oMv rfl rfl) <| sgT z3 rfl rfl (iDec.2 hc19) (oMv rfl rfl) <| sgT z3 rfl rfl (iDec.2 hc19) (oRem rfl hx156 rfl rfl) <| sgT z3 rfl rfl (iDec.2 hc19) (oMv rfl rfl) <| sgT z3 rfl rfl (iDec.2 hc19) (oBi rfl rfl rfl rfl) <| sq z3 (oPkT rfl rfl (iDec.2 hc19) rfl) <| sq z3 (oMv rfl rfl) <| sgF rfl rfl (byF iDec hc20) rfl <| sgF rfl rfl (byF iDec hc20) rfl <| sgF rfl rfl (byF iDec hc20) rfl <| sgF rfl rfl (byF iDec hc20) rfl <| sgF rfl rfl (byF iDec hc20) rfl <| sgF rfl rfl (byF iDec hc20) rfl <| sq z3 (oPkF rfl rfl (byF iDec hc20) rfl) <| sq z3 (oAsI rfl rfl) <| nl, (by kernel_rfl)⟩
                      · rw [if_neg hc19] at hm21
                        cases hm21
                        exact ⟨_, sq z3 (oMv rfl rfl) <| sq z3 (oMv rfl rfl) <| sq z3 (oBi rfl rfl rfl rfl) <| sq z3 (oMv rfl rfl) <| sgT z3 rfl rfl (iDec.2 hc18) (oMv rfl rfl) <| sgT z3 rfl rfl (iDec.2 hc18) (oMv rfl rfl) <| sgT z3 rfl rfl (iDec.2 hc18) (oBi rfl rfl rfl rfl) <| sgT z3 rfl rfl (iDec.2 hc18) (oBi rfl rfl rfl rfl) <| sq z3 (oPkT rfl rfl (iDec.2 hc18) rfl) <| sq z3 (oMv rfl rfl) <| sgF rfl rfl (byF iDec hc19) rfl <| sgF rfl rfl (byF iDec hc19) rfl <| sgF rfl rfl (byF iDec hc19) rfl <| sgF rfl rfl (byF iDec hc19) rfl <| sq z3 (oPkF rfl rfl (byF iDec hc19) rfl) <| sq z3 (oMv rfl rfl) <| sgF rfl rfl rfl rfl <| sgF rfl rfl rfl rfl <| sgF rfl rfl rfl rfl <| sgF rfl rfl rfl rfl <| sgF rfl rfl rfl rfl <| sgF rfl rfl rfl rfl <| sq z3 (oPkF rfl rfl rfl rfl) <| sq z3 (oAsI rfl rfl) <| nl, (by kernel_rfl)⟩
                    · rw [if_neg hc18] at hm21
                      cases hm21
                      exact ⟨_, sq z3 (oMv rfl rfl) <| sq z3 (oMv rfl rfl) <| sq z3 (oBi rfl rfl rfl rfl) <| sq z3 (oMv rfl rfl) <| sgF rfl rfl (byF iDec hc18) rfl <| sgF rfl rfl (byF iDec hc18) rfl <| sgF rfl rfl (byF iDec hc18) rfl <| sgF rfl rfl (byF iDec hc18) rfl <| sq z3 (oPkF rfl rfl (byF iDec hc18) rfl) <| sq z3 (oMv rfl rfl) <| sgF rfl rfl rfl rfl <| sgF rfl rfl rfl rfl <| sgF rfl rfl rfl rfl <| sgF rfl rfl rfl rfl <| sq z3 (oPkF rfl rfl rfl rfl) <| sq z3 (oMv rfl rfl) <| sgF rfl rfl rfl rfl <| sgF rfl rfl rfl rfl <| sgF rfl rfl rfl rfl <| sgF rfl rfl rfl rfl <| sgF rfl rfl rfl rfl <| sgF rfl rfl rfl rfl <| sq z3 (oPkF rfl rfl rfl rfl) <| sq z3 (oAsI rfl rfl) <| nl, (by kernel_rfl)⟩
                  · refine Unw.seq ?_
                    refine Go.ret (Unw.ret ?_)
                    cases h
                    exact Fin_ret (fin_of rfl rF3 rfl (by kernel_rfl))
              · intro K22
                by_cases hc23 : x52.2 = 0
                · rw [if_pos hc23] at h
                  refine Go.condT rfl (iEq.2 hc23) ?_
                  refine Go.seq ?_
                  obtain ⟨x100, hx100, h⟩ := bs h
                  refine Go.r0 c3 rfl rfl (sq z3 (oMv rfl rfl) <| sq z3 (oMv rfl rfl) <| sq z3 (oCa (xs := [.v false [.own 5 0 0], .v false [.own 12 0 0]]) (vs := [(false, [.im 0 _]), (false, [.im 0 _])]) (v := .tup [(false, [.im 0 _]), (false, [.im 0 _])]) (L_impl_PlanEnd hx100) (.inl rfl) rfl kF20_24_27 rfl (ppC rfl (ppC rfl pp0)) rfl rfl pb0 rfl rfl rfl) <| sq z3 (oMvT rfl rfl) <| sq z3 (oEx rfl rfl rfl) <| sq z3 (oEx rfl rfl rfl) <| sq z3 (oAsI rfl rfl) <| sq z3 (oAsI rfl rfl) <| nl) ?_
                  refine Unw.seq ?_
                  refine Go.seq ?_
                  obtain ⟨x105, hx105, h⟩ := bs h
                  refine Go.r0 c3 rfl rfl (sq z3 (oMv rfl rfl) <| sq z3 (oCa (xs := [.v false [.own 5 0 0]]) (vs := [(false, [.im 0 _]), (false, [.im 0 _])]) (v := .tup [(false, [.im 0 _]), (false, [.im 0 _])]) (L_impl_WorkingTime hx105) (.inl rfl) rfl kF21_24 rfl (ppC rfl pp0) rfl rfl pb0 rfl rfl rfl) <| sq z3 (oMvT rfl rfl) <| sq z3 (oEx rfl rfl rfl) <| sq z3 (oEx rfl rfl rfl) <| sq z3 (oAsI rfl rfl) <| sq z3 (oAsI rfl rfl) <| nl) ?_
                  refine Unw.seq ?_
                  refine Go.seq ?_
                  refine Go.rX c3 rfl rfl rfl (mk [(1, .v false [.im 2 (.row 1 (List.map (eK .u8) more_1))]), (125, bv ((x105.2 != 0) || ((x100.2 == 0) && ((decide ((x32.1.length : Int) > 0)) && (decide (x100.1 < (w64 (x32.2.1 + x105.1))))))))] []) ?_ ?_
                  · by_cases hc24 : x105.2 ≠ 0
                    · exact ⟨_, sq z3 (oMv rfl rfl) <| sq z3 (oBi rfl rfl rfl rfl) <| sq z3 (oMv rfl rfl) <| sgF rfl rfl (iNe.2 hc24) rfl <| sgF rfl rfl (iNe.2 hc24) rfl <| sgF rfl rfl (iNe.2 hc24) rfl <| sgU rfl rfl rfl <| sgU rfl rfl rfl <| sgU rfl rfl rfl <| sgF rfl rfl (iNe.2 hc24) rfl <| sgF rfl rfl (iNe.2 hc24) rfl <| sgU rfl rfl rfl <| sgU rfl rfl rfl <| sgU rfl rfl rfl <| sgU rfl rfl rfl <| sgU rfl rfl rfl <| sgF rfl rfl (iNe.2 hc24) rfl <| sq z3 (oPkT rfl rfl (iNe.2 hc24) rfl) <| nl, (Eq.trans (b := (fun t_125_m13 : Bool => mk [(1, .v false [.im 2 (.row 1 (List.map (eK .u8) more_1))]), (125, bv t_125_m13)] []) true) (by kernel_rfl) (congrArg (fun t_125_m13 : Bool => mk [(1, .v false [.im 2 (.row 1 (List.map (eK .u8) more_1))]), (125, bv t_125_m13)] []) (by first | rfl | (simp [(iNe.2 hc24)]; done) | (simp [(iNe.2 hc24)]; omega))))⟩
                    · by_cases hc25 : x100.2 = 0
                      · by_cases hc26 : (x32.1.length : Int) > 0
                        · exact ⟨_, sq z3 (oMv rfl rfl) <| sq z3 (oBi rfl rfl rfl rfl) <| sq z3 (oMv rfl rfl) <| sgT z3 rfl rfl (byF iNe hc24) (oMv rfl rfl) <| sgT z3 rfl rfl (byF iNe hc24) (oBi rfl rfl rfl rfl) <| sgT z3 rfl rfl (byF iNe hc24) (oMv rfl rfl) <| sgT z3 rfl rfl (iEq.2 hc25) (oMv rfl rfl) <| sgT z3 rfl rfl (iEq.2 hc25) (oLnO rfl rfl uF24 rfl rfl rfl (fun e => nomatch e)) <| sgT z3 rfl rfl (iEq.2 hc25) (oBi rfl rfl rfl rfl) <| sgT z3 rfl rfl (byF iNe hc24) (oPkT rfl rfl (iEq.2 hc25) rfl) <| sgT z3 rfl rfl (byF iNe hc24) (oMv rfl rfl) <| sgT z3 rfl rfl (iDec.2 hc26) (oMv rfl rfl) <| sgT z3 rfl rfl (iDec.2 hc26) (oMv rfl rfl) <| sgT z3 rfl rfl (iDec.2 hc26) (oMv rfl rfl) <| sgT z3 rfl rfl (iDec.2 hc26) (oBi rfl rfl rfl rfl) <| sgT z3 rfl rfl (iDec.2 hc26) (oBi rfl rfl rfl rfl) <| sgT z3 rfl rfl (byF iNe hc24) (oPkT rfl rfl (iDec.2 hc26) rfl) <| sq z3 (oPkF rfl rfl (byF iNe hc24) rfl) <| nl, (Eq.trans (b := (fun t_125_m13 : Bool => mk [(1, .v false [.im 2 (.row 1 (List.map (eK .u8) more_1))]), (125, bv t_125_m13)] []) (decide (x100.1 < (w64 (x32.2.1 + x105.1))))) (by kernel_rfl) (congrArg (fun t_125_m13 : Bool => mk [(1, .v false [.im 2 (.row 1 (List.map (eK .u8) more_1))]), (125, bv t_125_m13)] []) (by first | rfl | (simp [(byF iNe hc24), (iEq.2 hc25), (iDec.2 hc26)]; done) | (simp [(byF iNe hc24), (iEq.2 hc25), (iDec.2 hc26)]; omega))))⟩
                        · exact ⟨_, sq z3 (oMv rfl rfl) <| sq z3 (oBi rfl rfl rfl rfl) <| sq z3 (oMv rfl rfl) <| sgT z3 rfl rfl (byF iNe hc24) (oMv rfl rfl) <| sgT z3 rfl rfl (byF iNe hc24) (oBi rfl rfl rfl rfl) <| sgT z3 rfl rfl (byF iNe hc24) (oMv rfl rfl) <| sgT z3 rfl rfl (iEq.2 hc25) (oMv rfl rfl) <| sgT z3 rfl rfl (iEq.2 hc25) (oLnO rfl rfl uF24 rfl rfl rfl (fun e => nomatch e)) <| sgT z3 rfl rfl (iEq.2 hc25) (oBi rfl rfl rfl rfl) <| sgT z3 rfl rfl (byF iNe hc24) (oPkT rfl rfl (iEq.2 hc25) rfl) <| sgT z3 rfl rfl (byF iNe hc24) (oMv rfl rfl) <| sgF rfl rfl (byF iDec hc26) rfl <| sgF rfl rfl (byF iDec hc26) rfl <| sgF rfl rfl (byF iDec hc26) rfl <| sgF rfl rfl (byF iDec hc26) rfl <| sgF rfl rfl (byF iDec hc26) rfl <| sgT z3 rfl rfl (byF iNe hc24) (oPkF rfl rfl (byF iDec hc26) rfl) <| sq z3 (oPkF rfl rfl (byF iNe hc24) rfl) <| nl, (Eq.trans (b := (fun t_125_m13 : Bool => mk [(1, .v false [.im 2 (.row 1 (List.map (eK .u8) more_1))]), (125, bv t_125_m13)] []) false) (by kernel_rfl) (congrArg (fun t_125_m13 : Bool => mk [(1, .v false [.im 2 (.row 1 (List.map (eK .u8) more_1))]), (125, bv t_125_m13)] []) (by first | rfl | (simp [(byF iNe hc24), (iEq.2 hc25), (byF iDec hc26)]; done) | (simp [(byF iNe hc24), (iEq.2 hc25), (byF iDec hc26)]; omega))))⟩
                      · exact ⟨_, sq z3 (oMv rfl rfl) <| sq z3 (oBi rfl rfl rfl rfl) <| sq z3 (oMv rfl rfl) <| sgT z3 rfl rfl (byF iNe hc24) (oMv rfl rfl) <| sgT z3 rfl rfl (byF iNe hc24) (oBi rfl rfl rfl rfl) <| sgT z3 rfl rfl (byF iNe hc24) (oMv rfl rfl) <| sgF rfl rfl (byF iEq hc25) rfl <| sgF rfl rfl (byF iEq hc25) rfl <| sgF rfl rfl (byF iEq hc25) rfl <| sgT z3 rfl rfl (byF iNe hc24) (oPkF rfl rfl (byF iEq hc25) rfl) <| sgT z3 rfl rfl (byF iNe hc24) (oMv rfl rfl) <| sgF rfl rfl rfl rfl <| sgF rfl rfl rfl rfl <| sgF rfl rfl rfl rfl <| sgF rfl rfl rfl rfl <| sgF rfl rfl rfl rfl <| sgT z3 rfl rfl (byF iNe hc24) (oPkF rfl rfl rfl rfl) <| sq z3 (oPkF rfl rfl (byF iNe hc24) rfl) <| nl, (Eq.trans (b := (fun t_125_m13 : Bool => mk [(1, .v false [.im 2 (.row 1 (List.map (eK .u8) more_1))]), (125, bv t_125_m13)] []) false) (by kernel_rfl) (congrArg (fun t_125_m13 : Bool => mk [(1, .v false [.im 2 (.row 1 (List.map (eK .u8) more_1))]), (125, bv t_125_m13)] []) (by first | rfl | (simp [(byF iNe hc24), (byF iEq hc25)]; done) | (simp [(byF iNe hc24), (byF iEq hc25)]; omega))))⟩
                  · refine Unw.seq ?_
                    by_cases hc27 : (x105.2 ≠ 0 ∨ (x100.2 = 0 ∧ ((x32.1.length : Int) > 0 ∧ x100.1 < (w64 (x32.2.1 + x105.1)))))
                    · rw [if_pos hc27] at h
                      refine Go.condT rfl ((iOr iNe (iAnd iEq (iAnd iDec iDec))).2 hc27) ?_
                      refine Go.seq ?_
                      refine Go.r0 c3 rfl rfl (sq z3 (oAsI rfl rfl) <| nl) ?_
                      refine Unw.seq ?_
                      refine Go.ret (Unw.ret ?_)
                      cases h
                      exact Fin_ret (fin_of rfl rF3 rfl (by kernel_rfl))
                    · rw [if_neg hc27] at h
                      refine Go.condF rfl (byF (iOr iNe (iAnd iEq (iAnd iDec iDec))) hc27) ?_
                      refine Go.skip ?_
                      exact K22 _ ⟨h, (by kernel_rfl)⟩
                · rw [if_neg hc23] at h
                  refine Go.condF rfl (byF iEq hc23) ?_
                  refine Go.skip ?_
                  exact K22 _ ⟨h, (by kernel_rfl)⟩
end
end Go.Proofs.Ytigjhjlkdamncaa
