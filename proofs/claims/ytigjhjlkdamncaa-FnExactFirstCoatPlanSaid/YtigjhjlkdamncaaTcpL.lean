/- The machine answers, at each function of the program that is reached, what its plain function answers: a further part. Conditions: none. -/
import Derived.Test.YtigjhjlkdamncaaTcpLa
namespace Go.Proofs.Ytigjhjlkdamncaa
open Go Go.Sim Go.Pw Go.Proofs
set_option linter.unusedVariables false
set_option linter.unusedSimpArgs false
set_option maxRecDepth 100000
set_option maxHeartbeats 4000000
noncomputable section

theorem L_laws_heldInt64S {a_0 : (List Int)} {k_1 : Int} {r : Int} (h : laws_heldInt64S a_0 k_1 = some r) : FL Try.prog cfg 31 [.im 2 false [.row 1 (List.map eI a_0)], .im 2 false [.sc (.int .i64 k_1)]] = some ([(false, [.im 0 (.sc (.int .i64 r))])], []) := by
  unfold laws_heldInt64S at h
  refine FL_goS (A := [(0, .v false [.im 2 (.row 1 (List.map eI a_0))]), (1, .v false [.im 2 (.sc (.int .i64 k_1))])]) (B := [(0, none), (1, none)]) (nt := 21) rfl rfl Try.func31 rfl rfl rfl rfl ?_
  refine Go.seq ?_
  refine Go.r0 c31 rfl rfl (sq z31 (oAsI rfl rfl) <| nl) ?_
  refine Unw.seq ?_
  refine Go.seq ?_
  refine Go.seq ?_
  refine Go.r0 c31 rfl rfl (sq z31 (oAsI rfl rfl) <| nl) ?_
  refine Unw.seq ?_
  refine Go.block ?_
  obtain ⟨o, hl, h⟩ := bs h
  refine Go.lp c31 rfl _ (fun (s : (Int × Int)) => match s with | (k_1_l2, i_5_l2) => mk [(0, .v false [.im 2 (.row 1 (List.map eI a_0))]), (1, iv k_1_l2), (5, iv i_5_l2)] []) (fun (o : (Int ⊕ Int)) (p : Ex × St) => match o with | (.inl k_1_e0_2) => p.1 = .exit 0 ∧ p.2.norm ([1], []) = mk [(1, iv k_1_e0_2)] [] | (.inr r2) => p.1 = .ret ∧ fin Try.prog cfg 31 Try.f31 [.im 2 false [.row 1 (List.map eI a_0)], .im 2 false [.sc (.int .i64 k_1)]] p.2 = some ([(false, [.im 0 (.sc (.int .i64 r2))])], [])) hl (by kernel_rfl) ?_ ?_ ?_
  · intro o p hp e
    rcases o with k_1_e0_2 | r2 <;> exact nomatch (hp.1.symm.trans e)
  · rintro ⟨k_1_l2, i_5_l2⟩ o h
    unfold laws_heldInt64S_l2 at h
    dsimp only at h
    refine Go.seq ?_
    refine Go.seq ?_
    refine Go.r0 c31 rfl rfl (sq z31 (oMv rfl rfl) <| sq z31 (oMv rfl rfl) <| sq z31 (oLnI rfl rfl uF27 rfl) <| sq z31 (oBi rfl rfl rfl rfl) <| nl) ?_
    refine Unw.seq ?_
    by_cases hc5 : i_5_l2 < (a_0.length : Int)
    · rw [if_pos hc5] at h
      refine Go.condT rfl (iDec.2 hc5) ?_
      refine Go.skip ?_
      refine Unw.seq ?_
      refine Go.seq ?_
      refine Go.block ?_
      refine Go.seq ?_
      refine Go.seq ?_
      obtain ⟨x14, hx14, h⟩ := bs h
      refine Go.r0 c31 rfl rfl (sq z31 (oMv rfl rfl) <| sq z31 (oMv rfl rfl) <| sq z31 (oIAI rfl hx14 sF27 rfl rfl) <| sq z31 (oLd (cs := [.im 2 _]) rfl tF2 rfl rfl) <| sq z31 (oMv rfl rfl) <| sq z31 (oBi rfl rfl rfl rfl) <| nl) ?_
      refine Unw.seq ?_
      by_cases hc6 : x14 ≠ k_1_l2
      · rw [if_pos hc6] at h
        refine Go.condT rfl (iNe.2 hc6) ?_
        refine Go.seq ?_
        refine Go.r0 c31 rfl rfl (sq z31 (oAsI rfl rfl) <| nl) ?_
        refine Unw.seq ?_
        refine Go.ret (Unw.ret ?_)
        cases h
        exact ⟨rfl, (fin_of rfl rF31 rfl (by kernel_rfl))⟩
      · rw [if_neg hc6] at h
        refine Go.condF rfl (byF iNe hc6) ?_
        refine Go.skip ?_
        refine Unw.seq ?_
        refine Go.r0 c31 rfl rfl (sq z31 (oMv rfl rfl) <| sq z31 (oBi rfl rfl rfl rfl) <| sq z31 (oAsI rfl rfl) <| nl) ?_
        refine Unw.blk ?_
        refine Unw.seq ?_
        refine Go.r0 c31 rfl rfl (sq z31 (oMv rfl rfl) <| sq z31 (oBi rfl rfl rfl rfl) <| sq z31 (oAsI rfl rfl) <| nl) ?_
        refine Unw.nil ?_
        cases h
        exact ⟨rfl, (by kernel_rfl)⟩
    · rw [if_neg hc5] at h
      refine Go.condF rfl (byF iDec hc5) ?_
      refine Go.exit ?_
      refine Unw.seqx ?_
      refine Unw.nil ?_
      cases h
      exact ⟨rfl, (by kernel_rfl)⟩
  · rintro ⟨e, st⟩ hp
    rcases o with k_1_e0_2 | r2
    · dsimp only at h
      obtain ⟨he, hst⟩ := hp
      obtain rfl : e = .exit 0 := he
      refine Unw.blkx ?_
      refine Unw.seq ?_
      refine Go.seq ?_
      refine Go.r1 c31 rfl rfl hst (sq z31 (oMv rfl rfl) <| sq z31 (oAsI rfl rfl) <| nl) ?_
      refine Unw.seq ?_
      refine Go.ret (Unw.ret ?_)
      cases h
      exact Fin_ret (fin_of rfl rF31 rfl (by kernel_rfl))
    · dsimp only at h
      obtain ⟨he, hfin⟩ := hp
      obtain rfl : e = .ret := he
      cases h
      exact Unw.ret (Fin_ret hfin)
theorem L_laws_FnExactFirstCoatPlan {aList_0 : (List S_Coat)} {aStart_1 : Int} {aOpen_2 : Int} {aEnd_3 : Int} {aBudget_4 : Int} {r : Bool} (h : laws_FnExactFirstCoatPlan aList_0 aStart_1 aOpen_2 aEnd_3 aBudget_4 = some r) : FL Try.prog cfg 4 [.im 2 false [.row 4 (List.map e_S_Coat aList_0)], .im 2 false [.sc (.int .i64 aStart_1)], .im 2 false [.sc (.int .i64 aOpen_2)], .im 2 false [.sc (.int .i64 aEnd_3)], .im 2 false [.sc (.int .i64 aBudget_4)]] = some ([(false, [.im 0 (.sc (.bool r))])], []) := by
  unfold laws_FnExactFirstCoatPlan at h
  refine FL_goS (A := [(0, .v false [.im 2 (.row 4 (List.map e_S_Coat aList_0))]), (1, .v false [.im 2 (.sc (.int .i64 aStart_1))]), (2, .v false [.im 2 (.sc (.int .i64 aOpen_2))]), (3, .v false [.im 2 (.sc (.int .i64 aEnd_3))]), (4, .v false [.im 2 (.sc (.int .i64 aBudget_4))])]) (B := [(0, none), (1, none), (2, none), (3, none), (4, none)]) (nt := 116) rfl rfl Try.func4 rfl rfl rfl rfl ?_
  refine Go.seq ?_
  refine Go.r0 c4 rfl rfl (sq z4 (oAsI rfl rfl) <| nl) ?_
  refine Unw.seq ?_
  refine Go.seq ?_
  refine Go.r0 c4 rfl rfl (sq z4 (oAsI rfl rfl) <| nl) ?_
  refine Unw.seq ?_
  refine Go.seq ?_
  obtain ⟨x24, hx24, h⟩ := bs h
  refine Go.r0 c4 rfl rfl (sq z4 (oMv rfl rfl) <| sq z4 (oMv rfl rfl) <| sq z4 (oCa (xs := [.v false [.im 2 _], .v false [.im 0 _]]) (vs := [(false, [.im 0 _])]) (v := .v false [.im 0 _]) (L_laws_szCoatS hx24) (.inl rfl) rfl kF24_40_3 rfl (ppC rfl (ppC rfl pp0)) rfl rfl pb0 rfl rfl rfl) <| sq z4 (oAsI rfl rfl) <| nl) ?_
  refine Unw.seq ?_
  refine Go.seq ?_
  refine Go.seq ?_
  refine Go.r0 c4 rfl rfl (sq z4 (oMv rfl rfl) <| sq z4 (oBi rfl rfl rfl rfl) <| nl) ?_
  refine Unw.seq ?_
  by_cases hc1 : x24 < 0
  · rw [if_pos hc1] at h
    refine Go.condT rfl (iDec.2 hc1) ?_
    refine Go.seq ?_
    refine Go.r0 c4 rfl rfl (sq z4 (oAsI rfl rfl) <| nl) ?_
    refine Unw.seq ?_
    refine Go.ret (Unw.ret ?_)
    cases h
    exact Fin_ret (fin_of rfl rF4 rfl (by kernel_rfl))
  · rw [if_neg hc1] at h
    refine Go.condF rfl (byF iDec hc1) ?_
    refine Go.skip ?_
    refine Unw.seq ?_
    refine Go.seq ?_
    obtain ⟨x29, hx29, h⟩ := bs h
    obtain ⟨x34, hx34, h⟩ := bs h
    refine Go.r0 c4 rfl rfl (sq z4 (oMv rfl rfl) <| sq z4 (oCr (xs := [.v false [.im 2 _]]) (vs := [(false, [.own 29 0 0])]) (v := .v false [.own 29 0 0]) (c := ⟨.sh, 0, _⟩) (cs := []) (L_laws_toCoatS hx29) (.inl rfl) rfl kF26_40 rfl (ppC rfl pp0) rfl rfl pb0 rfl rfl rfl) <| sq z4 (oMv rfl rfl) <| sq z4 (oMv rfl rfl) <| sq z4 (oMv rfl rfl) <| sq z4 (oMv rfl rfl) <| sq z4 (oCr (xs := [.v false [.own 29 0 0], .v false [.im 2 _], .v false [.im 2 _], .v false [.im 2 _], .v false [.im 2 _]]) (vs := [(false, [.own 34 0 0]), (false, [.im 0 _])]) (v := .tup [(false, [.own 34 0 0]), (false, [.im 0 _])]) (c := ⟨.sh, 0, _⟩) (cs := []) (L_spec_FirstCoatPlan hx34) (.inl rfl) rfl kF25_24_2_2_2_2 rfl (ppC rfl (ppC rfl (ppC rfl (ppC rfl (ppC rfl pp0))))) rfl rfl pb0 rfl rfl rfl) <| sq z4 (oMvT rfl rfl) <| sq z4 (oEx rfl rfl rfl) <| sq z4 (oEx rfl rfl rfl) <| sq z4 (oAsO rfl rfl rfl rfl rfl) <| sq z4 (oAsI rfl rfl) <| nl) ?_
    refine Unw.seq ?_
    refine Go.seq ?_
    obtain ⟨x38, hx38, h⟩ := bs h
    refine Go.r0 c4 rfl rfl (sq z4 (oMv rfl rfl) <| sq z4 (oCr (xs := [.v false [.im 2 _]]) (vs := [(false, [.own 38 0 0])]) (v := .v false [.own 38 0 0]) (c := ⟨.sh, 0, _⟩) (cs := []) (L_laws_toCoatS hx38) (.inl rfl) rfl kF26_40 rfl (ppC rfl pp0) rfl rfl pb0 rfl rfl rfl) <| sq z4 (oAsO rfl rfl rfl rfl rfl) <| nl) ?_
    refine Unw.seq ?_
    refine Go.seq ?_
    obtain ⟨x45, hx45, h⟩ := bs h
    refine Go.r0 c4 rfl rfl (sq z4 (oMv rfl rfl) <| sq z4 (oMv rfl rfl) <| sq z4 (oMv rfl rfl) <| sq z4 (oMv rfl rfl) <| sq z4 (oMv rfl rfl) <| sq z4 (oCr (xs := [.v false [.own 14 0 0], .v false [.im 2 _], .v false [.im 2 _], .v false [.im 2 _], .v false [.im 2 _]]) (vs := [(false, [.own 45 0 0]), (false, [.im 0 _])]) (v := .tup [(false, [.own 45 0 0]), (false, [.im 0 _])]) (c := ⟨.sh, 0, _⟩) (cs := []) (L_impl_FirstCoatPlan hx45) (.inl rfl) rfl kF17_24_2_2_2_2 rfl (ppC rfl (ppC rfl (ppC rfl (ppC rfl (ppC rfl pp0))))) rfl rfl pb0 rfl rfl rfl) <| sq z4 (oMvT rfl rfl) <| sq z4 (oEx rfl rfl rfl) <| sq z4 (oEx rfl rfl rfl) <| sq z4 (oAsO rfl rfl rfl rfl rfl) <| sq z4 (oAsI rfl rfl) <| nl) ?_
    refine Unw.seq ?_
    refine Go.seq ?_
    refine Go.seq ?_
    obtain ⟨x50, hx50, h⟩ := bs h
    refine Go.rX c4 rfl rfl rfl (mk [(0, .v false [.im 2 (.row 4 (List.map e_S_Coat aList_0))]), (1, iv aStart_1), (2, iv aOpen_2), (3, iv aEnd_3), (4, iv aBudget_4), (12, .v false [.own 12 0 0]), (13, iv x34.2), (14, .v false [.own 14 0 0]), (15, .v false [.own 15 0 0]), (16, iv x45.2), (56, bv ((!x50) || (x45.2 != x34.2)))] [(12, some ⟨0, 0, false, false, false, false, [⟨.sh, 0, 0, .row 1 (List.map eI x34.1)⟩]⟩), (14, some ⟨0, 0, false, false, false, false, [⟨.sh, 0, 0, .row 4 (List.map e_S_Coat x38)⟩]⟩), (15, some ⟨0, 0, false, false, false, false, [⟨.sh, 0, 0, .row 1 (List.map eI x45.1)⟩]⟩)]) ?_ ?_
    · by_cases hc2 : x50 = true
      · exact ⟨_, sq z4 (oMv rfl rfl) <| sq z4 (oMv rfl rfl) <| sq z4 (oCa (xs := [.v false [.own 15 0 0], .v false [.own 12 0 0]]) (vs := [(false, [.im 0 _])]) (v := .v false [.im 0 _]) (L_laws_eqInt64S hx50) (.inl rfl) rfl kF27_27_27 rfl (ppC rfl (ppC rfl pp0)) rfl rfl pb0 rfl rfl rfl) <| sq z4 (oUn rfl rfl rfl) <| sq z4 (oMv rfl rfl) <| sgT z4 rfl rfl (nF (Iff.rfl.2 hc2)) (oMv rfl rfl) <| sgT z4 rfl rfl (nF (Iff.rfl.2 hc2)) (oMv rfl rfl) <| sgT z4 rfl rfl (nF (Iff.rfl.2 hc2)) (oBi rfl rfl rfl rfl) <| sq z4 (oPkF rfl rfl (nF (Iff.rfl.2 hc2)) rfl) <| nl, (Eq.trans (b := (fun t_56_m8 : Bool => mk [(0, .v false [.im 2 (.row 4 (List.map e_S_Coat aList_0))]), (1, iv aStart_1), (2, iv aOpen_2), (3, iv aEnd_3), (4, iv aBudget_4), (12, .v false [.own 12 0 0]), (13, iv x34.2), (14, .v false [.own 14 0 0]), (15, .v false [.own 15 0 0]), (16, iv x45.2), (56, bv t_56_m8)] [(12, some ⟨0, 0, false, false, false, false, [⟨.sh, 0, 0, .row 1 (List.map eI x34.1)⟩]⟩), (14, some ⟨0, 0, false, false, false, false, [⟨.sh, 0, 0, .row 4 (List.map e_S_Coat x38)⟩]⟩), (15, some ⟨0, 0, false, false, false, false, [⟨.sh, 0, 0, .row 1 (List.map eI x45.1)⟩]⟩)]) (x45.2 != x34.2)) (by kernel_rfl) (congrArg (fun t_56_m8 : Bool => mk [(0, .v false [.im 2 (.row 4 (List.map e_S_Coat aList_0))]), (1, iv aStart_1), (2, iv aOpen_2), (3, iv aEnd_3), (4, iv aBudget_4), (12, .v false [.own 12 0 0]), (13, iv x34.2), (14, .v false [.own 14 0 0]), (15, .v false [.own 15 0 0]), (16, iv x45.2), (56, bv t_56_m8)] [(12, some ⟨0, 0, false, false, false, false, [⟨.sh, 0, 0, .row 1 (List.map eI x34.1)⟩]⟩), (14, some ⟨0, 0, false, false, false, false, [⟨.sh, 0, 0, .row 4 (List.map e_S_Coat x38)⟩]⟩), (15, some ⟨0, 0, false, false, false, false, [⟨.sh, 0, 0, .row 1 (List.map eI x45.1)⟩]⟩)]) (by first | rfl | simp [(Iff.rfl.2 hc2)])))⟩
      · exact ⟨_, sq z4 (oMv rfl rfl) <| sq z4 (oMv rfl rfl) <| sq z4 (oCa (xs := [.v false [.own 15 0 0], .v false [.own 12 0 0]]) (vs := [(false, [.im 0 _])]) (v := .v false [.im 0 _]) (L_laws_eqInt64S hx50) (.inl rfl) rfl kF27_27_27 rfl (ppC rfl (ppC rfl pp0)) rfl rfl pb0 rfl rfl rfl) <| sq z4 (oUn rfl rfl rfl) <| sq z4 (oMv rfl rfl) <| sgF rfl rfl (nT (byF Iff.rfl hc2)) rfl <| sgF rfl rfl (nT (byF Iff.rfl hc2)) rfl <| sgF rfl rfl (nT (byF Iff.rfl hc2)) rfl <| sq z4 (oPkT rfl rfl (nT (byF Iff.rfl hc2)) rfl) <| nl, (Eq.trans (b := (fun t_56_m8 : Bool => mk [(0, .v false [.im 2 (.row 4 (List.map e_S_Coat aList_0))]), (1, iv aStart_1), (2, iv aOpen_2), (3, iv aEnd_3), (4, iv aBudget_4), (12, .v false [.own 12 0 0]), (13, iv x34.2), (14, .v false [.own 14 0 0]), (15, .v false [.own 15 0 0]), (16, iv x45.2), (56, bv t_56_m8)] [(12, some ⟨0, 0, false, false, false, false, [⟨.sh, 0, 0, .row 1 (List.map eI x34.1)⟩]⟩), (14, some ⟨0, 0, false, false, false, false, [⟨.sh, 0, 0, .row 4 (List.map e_S_Coat x38)⟩]⟩), (15, some ⟨0, 0, false, false, false, false, [⟨.sh, 0, 0, .row 1 (List.map eI x45.1)⟩]⟩)]) true) (by kernel_rfl) (congrArg (fun t_56_m8 : Bool => mk [(0, .v false [.im 2 (.row 4 (List.map e_S_Coat aList_0))]), (1, iv aStart_1), (2, iv aOpen_2), (3, iv aEnd_3), (4, iv aBudget_4), (12, .v false [.own 12 0 0]), (13, iv x34.2), (14, .v false [.own 14 0 0]), (15, .v false [.own 15 0 0]), (16, iv x45.2), (56, bv t_56_m8)] [(12, some ⟨0, 0, false, false, false, false, [⟨.sh, 0, 0, .row 1 (List.map eI x34.1)⟩]⟩), (14, some ⟨0, 0, false, false, false, false, [⟨.sh, 0, 0, .row 4 (List.map e_S_Coat x38)⟩]⟩), (15, some ⟨0, 0, false, false, false, false, [⟨.sh, 0, 0, .row 1 (List.map eI x45.1)⟩]⟩)]) (by first | rfl | simp [(byF Iff.rfl hc2)])))⟩
    · refine Unw.seq ?_
      by_cases hc3 : (¬ (x50 = true) ∨ x45.2 ≠ x34.2)
      · rw [if_pos hc3] at h
        refine Go.condT rfl ((iOr (iNot Iff.rfl) iNe).2 hc3) ?_
        refine Go.seq ?_
        refine Go.r0 c4 rfl rfl (sq z4 (oAsI rfl rfl) <| nl) ?_
        refine Unw.seq ?_
        refine Go.ret (Unw.ret ?_)
        cases h
        exact Fin_ret (fin_of rfl rF4 rfl (by kernel_rfl))
      · rw [if_neg hc3] at h
        refine Go.condF rfl (byF (iOr (iNot Iff.rfl) iNe) hc3) ?_
        refine Go.skip ?_
        refine Unw.seq ?_
        refine Go.seq ?_
        refine Go.seq ?_
        obtain ⟨x59, hx59, h⟩ := bs h
        obtain ⟨x60, hx60, h⟩ := bs h
        refine Go.r0 c4 rfl rfl (sq z4 (oMv rfl rfl) <| sq z4 (oMv rfl rfl) <| sq z4 (oCr (xs := [.v false [.im 2 _]]) (vs := [(false, [.own 59 0 0])]) (v := .v false [.own 59 0 0]) (c := ⟨.sh, 0, _⟩) (cs := []) (L_laws_toCoatS hx59) (.inl rfl) rfl kF26_40 rfl (ppC rfl pp0) rfl rfl pb0 rfl rfl rfl) <| sq z4 (oCa (xs := [.v false [.own 14 0 0], .v false [.own 59 0 0]]) (vs := [(false, [.im 0 _])]) (v := .v false [.im 0 _]) (L_laws_eqCoatS hx60) (.inl rfl) rfl kF28_24_24 rfl (ppC rfl (ppC rfl pp0)) rfl rfl pb0 rfl rfl rfl) <| sq z4 (oUn rfl rfl rfl) <| nl) ?_
        refine Unw.seq ?_
        by_cases hc4 : x60 = true
        · rw [if_pos hc4] at h
          refine Go.condF rfl (nF (Iff.rfl.2 hc4)) ?_
          refine Go.skip ?_
          refine Unw.seq ?_
          refine Go.seq ?_
          refine Go.r0 c4 rfl rfl (sq z4 (oAsI rfl rfl) <| nl) ?_
          refine Unw.seq ?_
          refine Go.seq ?_
          obtain ⟨x64, hx64, h⟩ := bs h
          refine Go.r0 c4 rfl rfl (sq z4 (oMv rfl rfl) <| sq z4 (oMv rfl rfl) <| sq z4 (oCa (xs := [.v false [.own 14 0 0], .v false [.im 0 _]]) (vs := [(false, [.im 0 _])]) (v := .v false [.im 0 _]) (L_laws_markCoatS hx64) (.inl rfl) rfl kF29_24_3 rfl (ppC rfl (ppC rfl pp0)) rfl rfl (pbO rfl rfl rfl rfl pb0) rfl rfl rfl) <| sq z4 (oAsI rfl rfl) <| nl) ?_
          refine Unw.seq ?_
          refine Go.seq ?_
          refine Go.seq ?_
          obtain ⟨t_77_m14, hm14, h⟩ := bs h
          refine Go.rX c4 rfl rfl (st1 := mk [(0, .v false [.im 2 (.row 4 (List.map e_S_Coat aList_0))]), (1, iv aStart_1), (2, iv aOpen_2), (3, iv aEnd_3), (4, iv aBudget_4), (12, .v false [.own 12 0 0]), (13, iv x34.2), (15, .v false [.own 15 0 0]), (16, iv x45.2), (17, iv x64.1)] [(12, some ⟨0, 0, false, false, false, false, [⟨.sh, 0, 0, .row 1 (List.map eI x34.1)⟩]⟩), (15, some ⟨0, 0, false, false, false, false, [⟨.sh, 0, 0, .row 1 (List.map eI x45.1)⟩]⟩)]) (by kernel_rfl) (mk [(0, .v false [.im 2 (.row 4 (List.map e_S_Coat aList_0))]), (1, iv aStart_1), (2, iv aOpen_2), (3, iv aEnd_3), (4, iv aBudget_4), (12, .v false [.own 12 0 0]), (13, iv x34.2), (15, .v false [.own 15 0 0]), (77, bv t_77_m14)] [(12, some ⟨0, 0, false, false, false, false, [⟨.sh, 0, 0, .row 1 (List.map eI x34.1)⟩]⟩), (15, some ⟨0, 0, false, false, false, false, [⟨.sh, 0, 0, .row 1 (List.map eI x45.1)⟩]⟩)]) ?_ ?_
          · by_cases hc5 : x64.1 < 0
            · rw [if_pos hc5] at hm14
              cases hm14
              exact ⟨_, sq z4 (oMv rfl rfl) <| sq z4 (oBi rfl rfl rfl rfl) <| sq z4 (oMv rfl rfl) <| sgF rfl rfl (iDec.2 hc5) rfl <| sgF rfl rfl (iDec.2 hc5) rfl <| sgF rfl rfl (iDec.2 hc5) rfl <| sgF rfl rfl (iDec.2 hc5) rfl <| sq z4 (oPkT rfl rfl (iDec.2 hc5) rfl) <| sq z4 (oMv rfl rfl) <| sgF rfl rfl rfl rfl <| sgF rfl rfl rfl rfl <| sgF rfl rfl rfl rfl <| sq z4 (oPkT rfl rfl rfl rfl) <| nl, (by kernel_rfl)⟩
            · rw [if_neg hc5] at hm14
              obtain ⟨x70, hx70, hm14⟩ := bs hm14
              by_cases hc6 : x70 = true
              · rw [if_pos hc6] at hm14
                cases hm14
                exact ⟨_, sq z4 (oMv rfl rfl) <| sq z4 (oBi rfl rfl rfl rfl) <| sq z4 (oMv rfl rfl) <| sgT z4 rfl rfl (byF iDec hc5) (oMv rfl rfl) <| sgT z4 rfl rfl (byF iDec hc5) (oMv rfl rfl) <| sgT z4 rfl rfl (byF iDec hc5) (oCa (xs := [.v false [.own 15 0 0], .v false [.own 12 0 0]]) (vs := [(false, [.im 0 _])]) (v := .v false [.im 0 _]) (L_laws_eqInt64S hx70) (.inl rfl) rfl kF27_27_27 rfl (ppC rfl (ppC rfl pp0)) rfl rfl pb0 rfl rfl rfl) <| sgT z4 rfl rfl (byF iDec hc5) (oUn rfl rfl rfl) <| sq z4 (oPkF rfl rfl (byF iDec hc5) rfl) <| sq z4 (oMv rfl rfl) <| sgT z4 rfl rfl (nF (Iff.rfl.2 hc6)) (oMv rfl rfl) <| sgT z4 rfl rfl (nF (Iff.rfl.2 hc6)) (oMv rfl rfl) <| sgT z4 rfl rfl (nF (Iff.rfl.2 hc6)) (oBi rfl rfl rfl rfl) <| sq z4 (oPkF rfl rfl (nF (Iff.rfl.2 hc6)) rfl) <| nl, (by kernel_rfl)⟩
              · rw [if_neg hc6] at hm14
                cases hm14
                exact ⟨_, sq z4 (oMv rfl rfl) <| sq z4 (oBi rfl rfl rfl rfl) <| sq z4 (oMv rfl rfl) <| sgT z4 rfl rfl (byF iDec hc5) (oMv rfl rfl) <| sgT z4 rfl rfl (byF iDec hc5) (oMv rfl rfl) <| sgT z4 rfl rfl (byF iDec hc5) (oCa (xs := [.v false [.own 15 0 0], .v false [.own 12 0 0]]) (vs := [(false, [.im 0 _])]) (v := .v false [.im 0 _]) (L_laws_eqInt64S hx70) (.inl rfl) rfl kF27_27_27 rfl (ppC rfl (ppC rfl pp0)) rfl rfl pb0 rfl rfl rfl) <| sgT z4 rfl rfl (byF iDec hc5) (oUn rfl rfl rfl) <| sq z4 (oPkF rfl rfl (byF iDec hc5) rfl) <| sq z4 (oMv rfl rfl) <| sgF rfl rfl (nT (byF Iff.rfl hc6)) rfl <| sgF rfl rfl (nT (byF Iff.rfl hc6)) rfl <| sgF rfl rfl (nT (byF Iff.rfl hc6)) rfl <| sq z4 (oPkT rfl rfl (nT (byF Iff.rfl hc6)) rfl) <| nl, (by kernel_rfl)⟩
          · refine Unw.seq ?_
            by_cases hc7 : t_77_m14 = true
            · rw [if_pos hc7] at h
              refine Go.condT rfl (Iff.rfl.2 hc7) ?_
              refine Go.seq ?_
              refine Go.r0 c4 rfl rfl (sq z4 (oAsI rfl rfl) <| nl) ?_
              refine Unw.seq ?_
              refine Go.ret (Unw.ret ?_)
              cases h
              exact Fin_ret (fin_of rfl rF4 rfl (by kernel_rfl))
            · rw [if_neg hc7] at h
              refine Go.condF rfl (byF Iff.rfl hc7) ?_
              refine Go.skip ?_
              refine Unw.seq ?_
              refine Go.seq ?_
              refine Go.r0 c4 rfl rfl (sq z4 (oAsI rfl rfl) <| nl) ?_
              refine Unw.seq ?_
              refine Go.seq ?_
              obtain ⟨x80, hx80, h⟩ := bs h
              refine Go.r0 c4 rfl rfl (sq z4 (oMv rfl rfl) <| sq z4 (oMv rfl rfl) <| sq z4 (oCa (xs := [.v false [.own 15 0 0], .v false [.im 0 _]]) (vs := [(false, [.im 0 _])]) (v := .v false [.im 0 _]) (L_laws_markInt64S hx80) (.inl rfl) rfl kF30_27_3 rfl (ppC rfl (ppC rfl pp0)) rfl rfl (pbO rfl rfl rfl rfl pb0) rfl rfl rfl) <| sq z4 (oAsI rfl rfl) <| nl) ?_
              refine Unw.seq ?_
              refine Go.seq ?_
              refine Go.r1 c4 rfl rfl (st1 := mk [(0, .v false [.im 2 (.row 4 (List.map e_S_Coat aList_0))]), (1, iv aStart_1), (2, iv aOpen_2), (3, iv aEnd_3), (4, iv aBudget_4), (12, .v false [.own 12 0 0]), (13, iv x34.2), (15, .v false [.own 15 0 0]), (18, iv x80.1)] [(12, some ⟨0, 0, false, false, false, false, [⟨.sh, 0, 0, .row 1 (List.map eI x34.1)⟩]⟩), (15, some ⟨0, 0, false, false, false, false, [⟨.sh, 0, 0, .row 1 (List.map eI x80.2)⟩]⟩)]) (by kernel_rfl) (sq z4 (oAsI rfl rfl) <| nl) ?_
              refine Unw.seq ?_
              refine Go.seq ?_
              obtain ⟨x83, hx83, h⟩ := bs h
              refine Go.r0 c4 rfl rfl (sq z4 (oMv rfl rfl) <| sq z4 (oMv rfl rfl) <| sq z4 (oCa (xs := [.v false [.own 15 0 0], .v false [.im 0 _]]) (vs := [(false, [.im 0 _])]) (v := .v false [.im 0 _]) (L_laws_heldInt64S hx83) (.inl rfl) rfl kF31_27_3 rfl (ppC rfl (ppC rfl pp0)) rfl rfl pb0 rfl rfl rfl) <| sq z4 (oAsI rfl rfl) <| nl) ?_
              refine Unw.seq ?_
              refine Go.seq ?_
              refine Go.seq ?_
              refine Go.r0 c4 rfl rfl (sq z4 (oMv rfl rfl) <| sq z4 (oBi rfl rfl rfl rfl) <| nl) ?_
              refine Unw.seq ?_
              by_cases hc8 : x83 < 0
              · rw [if_pos hc8] at h
                refine Go.condT rfl (iDec.2 hc8) ?_
                refine Go.seq ?_
                refine Go.r0 c4 rfl rfl (sq z4 (oAsI rfl rfl) <| nl) ?_
                refine Unw.seq ?_
                refine Go.ret (Unw.ret ?_)
                cases h
                exact Fin_ret (fin_of rfl rF4 rfl (by kernel_rfl))
              · rw [if_neg hc8] at h
                refine Go.condF rfl (byF iDec hc8) ?_
                refine Go.skip ?_
                refine Unw.seq ?_
                refine Go.seq ?_
                refine Go.seq ?_
                refine Go.r0 c4 rfl rfl (sq z4 (oMv rfl rfl) <| sq z4 (oMv rfl rfl) <| sq z4 (oBi rfl rfl rfl rfl) <| nl) ?_
                refine Unw.seq ?_
                by_cases hc9 : x83 ≠ x80.1
                · rw [if_pos hc9] at h
                  refine Go.condT rfl (iNe.2 hc9) ?_
                  refine Go.seq ?_
                  refine Go.r0 c4 rfl rfl (sq z4 (oAsI rfl rfl) <| nl) ?_
                  refine Unw.seq ?_
                  refine Go.ret (Unw.ret ?_)
                  cases h
                  exact Fin_ret (fin_of rfl rF4 rfl (by kernel_rfl))
                · rw [if_neg hc9] at h
                  refine Go.condF rfl (byF iNe hc9) ?_
                  refine Go.skip ?_
                  refine Unw.seq ?_
                  refine Go.seq ?_
                  obtain ⟨x91, hx91, h⟩ := bs h
                  obtain ⟨x96, hx96, h⟩ := bs h
                  refine Go.r0 c4 rfl rfl (sq z4 (oMv rfl rfl) <| sq z4 (oCr (xs := [.v false [.im 2 _]]) (vs := [(false, [.own 91 0 0])]) (v := .v false [.own 91 0 0]) (c := ⟨.sh, 0, _⟩) (cs := []) (L_laws_toCoatS hx91) (.inl rfl) rfl kF26_40 rfl (ppC rfl pp0) rfl rfl pb0 rfl rfl rfl) <| sq z4 (oMv rfl rfl) <| sq z4 (oMv rfl rfl) <| sq z4 (oMv rfl rfl) <| sq z4 (oMv rfl rfl) <| sq z4 (oCr (xs := [.v false [.own 91 0 0], .v false [.im 0 _], .v false [.im 0 _], .v false [.im 0 _], .v false [.im 0 _]]) (vs := [(false, [.own 96 0 0]), (false, [.im 0 _])]) (v := .tup [(false, [.own 96 0 0]), (false, [.im 0 _])]) (c := ⟨.sh, 0, _⟩) (cs := []) (L_impl_FirstCoatPlan hx96) (.inl rfl) rfl kF17_24_2_2_2_2 rfl (ppC rfl (ppC rfl (ppC rfl (ppC rfl (ppC rfl pp0))))) rfl rfl pb0 rfl rfl rfl) <| sq z4 (oMvT rfl rfl) <| sq z4 (oEx rfl rfl rfl) <| sq z4 (oEx rfl rfl rfl) <| sq z4 (oAsO rfl rfl rfl rfl rfl) <| sq z4 (oAsI rfl rfl) <| nl) ?_
                  refine Unw.seq ?_
                  refine Go.seq ?_
                  refine Go.seq ?_
                  obtain ⟨x101, hx101, h⟩ := bs h
                  refine Go.rX c4 rfl rfl rfl (mk [(15, .v false [.own 15 0 0]), (18, iv x80.1), (107, bv ((!x101) || (x96.2 != x34.2)))] [(15, some ⟨0, 0, false, false, false, false, [⟨.sh, 0, 0, .row 1 (List.map eI x80.2)⟩]⟩)]) ?_ ?_
                  · by_cases hc10 : x101 = true
                    · exact ⟨_, sq z4 (oMv rfl rfl) <| sq z4 (oMv rfl rfl) <| sq z4 (oCa (xs := [.v false [.own 20 0 0], .v false [.own 12 0 0]]) (vs := [(false, [.im 0 _])]) (v := .v false [.im 0 _]) (L_laws_eqInt64S hx101) (.inl rfl) rfl kF27_27_27 rfl (ppC rfl (ppC rfl pp0)) rfl rfl pb0 rfl rfl rfl) <| sq z4 (oUn rfl rfl rfl) <| sq z4 (oMv rfl rfl) <| sgT z4 rfl rfl (nF (Iff.rfl.2 hc10)) (oMv rfl rfl) <| sgT z4 rfl rfl (nF (Iff.rfl.2 hc10)) (oMv rfl rfl) <| sgT z4 rfl rfl (nF (Iff.rfl.2 hc10)) (oBi rfl rfl rfl rfl) <| sq z4 (oPkF rfl rfl (nF (Iff.rfl.2 hc10)) rfl) <| nl, (Eq.trans (b := (fun t_107_m25 : Bool => mk [(15, .v false [.own 15 0 0]), (18, iv x80.1), (107, bv t_107_m25)] [(15, some ⟨0, 0, false, false, false, false, [⟨.sh, 0, 0, .row 1 (List.map eI x80.2)⟩]⟩)]) (x96.2 != x34.2)) (by kernel_rfl) (congrArg (fun t_107_m25 : Bool => mk [(15, .v false [.own 15 0 0]), (18, iv x80.1), (107, bv t_107_m25)] [(15, some ⟨0, 0, false, false, false, false, [⟨.sh, 0, 0, .row 1 (List.map eI x80.2)⟩]⟩)]) (by first | rfl | simp [(Iff.rfl.2 hc10)])))⟩
                    · exact ⟨_, sq z4 (oMv rfl rfl) <| sq z4 (oMv rfl rfl) <| sq z4 (oCa (xs := [.v false [.own 20 0 0], .v false [.own 12 0 0]]) (vs := [(false, [.im 0 _])]) (v := .v false [.im 0 _]) (L_laws_eqInt64S hx101) (.inl rfl) rfl kF27_27_27 rfl (ppC rfl (ppC rfl pp0)) rfl rfl pb0 rfl rfl rfl) <| sq z4 (oUn rfl rfl rfl) <| sq z4 (oMv rfl rfl) <| sgF rfl rfl (nT (byF Iff.rfl hc10)) rfl <| sgF rfl rfl (nT (byF Iff.rfl hc10)) rfl <| sgF rfl rfl (nT (byF Iff.rfl hc10)) rfl <| sq z4 (oPkT rfl rfl (nT (byF Iff.rfl hc10)) rfl) <| nl, (Eq.trans (b := (fun t_107_m25 : Bool => mk [(15, .v false [.own 15 0 0]), (18, iv x80.1), (107, bv t_107_m25)] [(15, some ⟨0, 0, false, false, false, false, [⟨.sh, 0, 0, .row 1 (List.map eI x80.2)⟩]⟩)]) true) (by kernel_rfl) (congrArg (fun t_107_m25 : Bool => mk [(15, .v false [.own 15 0 0]), (18, iv x80.1), (107, bv t_107_m25)] [(15, some ⟨0, 0, false, false, false, false, [⟨.sh, 0, 0, .row 1 (List.map eI x80.2)⟩]⟩)]) (by first | rfl | simp [(byF Iff.rfl hc10)])))⟩
                  · refine Unw.seq ?_
                    by_cases hc11 : (¬ (x101 = true) ∨ x96.2 ≠ x34.2)
                    · rw [if_pos hc11] at h
                      refine Go.condT rfl ((iOr (iNot Iff.rfl) iNe).2 hc11) ?_
                      refine Go.seq ?_
                      refine Go.r0 c4 rfl rfl (sq z4 (oAsI rfl rfl) <| nl) ?_
                      refine Unw.seq ?_
                      refine Go.ret (Unw.ret ?_)
                      cases h
                      exact Fin_ret (fin_of rfl rF4 rfl (by kernel_rfl))
                    · rw [if_neg hc11] at h
                      refine Go.condF rfl (byF (iOr (iNot Iff.rfl) iNe) hc11) ?_
                      refine Go.skip ?_
                      refine Unw.seq ?_
                      refine Go.seq ?_
                      refine Go.r0 c4 rfl rfl (sq z4 (oAsI rfl rfl) <| nl) ?_
                      refine Unw.seq ?_
                      refine Go.seq ?_
                      obtain ⟨x110, hx110, h⟩ := bs h
                      refine Go.r0 c4 rfl rfl (sq z4 (oMv rfl rfl) <| sq z4 (oMv rfl rfl) <| sq z4 (oCa (xs := [.v false [.own 15 0 0], .v false [.im 0 _]]) (vs := [(false, [.im 0 _])]) (v := .v false [.im 0 _]) (L_laws_heldInt64S hx110) (.inl rfl) rfl kF31_27_3 rfl (ppC rfl (ppC rfl pp0)) rfl rfl pb0 rfl rfl rfl) <| sq z4 (oAsI rfl rfl) <| nl) ?_
                      refine Unw.seq ?_
                      refine Go.seq ?_
                      refine Go.seq ?_
                      refine Go.r0 c4 rfl rfl (sq z4 (oMv rfl rfl) <| sq z4 (oBi rfl rfl rfl rfl) <| nl) ?_
                      refine Unw.seq ?_
                      by_cases hc12 : x110 < 0
                      · rw [if_pos hc12] at h
                        refine Go.condT rfl (iDec.2 hc12) ?_
                        refine Go.seq ?_
                        refine Go.r0 c4 rfl rfl (sq z4 (oAsI rfl rfl) <| nl) ?_
                        refine Unw.seq ?_
                        refine Go.ret (Unw.ret ?_)
                        cases h
                        exact Fin_ret (fin_of rfl rF4 rfl (by kernel_rfl))
                      · rw [if_neg hc12] at h
                        refine Go.condF rfl (byF iDec hc12) ?_
                        refine Go.skip ?_
                        refine Unw.seq ?_
                        refine Go.seq ?_
                        refine Go.seq ?_
                        refine Go.r0 c4 rfl rfl (sq z4 (oMv rfl rfl) <| sq z4 (oMv rfl rfl) <| sq z4 (oBi rfl rfl rfl rfl) <| nl) ?_
                        refine Unw.seq ?_
                        by_cases hc13 : x110 ≠ x80.1
                        · rw [if_pos hc13] at h
                          refine Go.condT rfl (iNe.2 hc13) ?_
                          refine Go.seq ?_
                          refine Go.r0 c4 rfl rfl (sq z4 (oAsI rfl rfl) <| nl) ?_
                          refine Unw.seq ?_
                          refine Go.ret (Unw.ret ?_)
                          cases h
                          exact Fin_ret (fin_of rfl rF4 rfl (by kernel_rfl))
                        · rw [if_neg hc13] at h
                          refine Go.condF rfl (byF iNe hc13) ?_
                          refine Go.skip ?_
                          refine Unw.seq ?_
                          refine Go.seq ?_
                          refine Go.r0 c4 rfl rfl (sq z4 (oAsI rfl rfl) <| nl) ?_
                          refine Unw.seq ?_
                          refine Go.ret (Unw.ret ?_)
                          cases h
                          exact Fin_ret (fin_of rfl rF4 rfl (by kernel_rfl))
        · rw [if_neg hc4] at h
          refine Go.condT rfl (nT (byF Iff.rfl hc4)) ?_
          refine Go.seq ?_
          refine Go.r0 c4 rfl rfl (sq z4 (oAsI rfl rfl) <| nl) ?_
          refine Unw.seq ?_
          refine Go.ret (Unw.ret ?_)
          cases h
          exact Fin_ret (fin_of rfl rF4 rfl (by kernel_rfl))
end
end Go.Proofs.Ytigjhjlkdamncaa
