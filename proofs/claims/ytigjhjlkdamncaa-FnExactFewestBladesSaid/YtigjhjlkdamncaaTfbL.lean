/- The machine answers, at each function of the program that is reached, what its plain function answers: a further part. Conditions: none. -/
import Derived.Test.YtigjhjlkdamncaaTfbLa
namespace Go.Proofs.Ytigjhjlkdamncaa
open Go Go.Sim Go.Pw Go.Proofs
set_option linter.unusedVariables false
set_option linter.unusedSimpArgs false
set_option maxRecDepth 100000
set_option maxHeartbeats 4000000
noncomputable section

theorem L_impl_FewestBlades {b_0 : S_Blade} {list_1 : (List S_Cutting)} {budget_2 : Int} {r : ((List Int) × Int × Int)} (h : impl_FewestBlades b_0 list_1 budget_2 = some r) : FL Try.prog cfg 37 [.im 2 true [.sc (.string b_0.Name), .sc (.int .i64 b_0.Life), .sc (.int .i64 b_0.Price), .sc (.int .i64 b_0.Speed)], .im 2 false [.row 3 (List.map e_S_Cutting list_1)], .im 2 false [.sc (.int .i64 budget_2)]] = some ([(false, [.ow 0 1 (List.map eI r.1)]), (false, [.im 0 (.sc (.int .i64 r.2.1))]), (false, [.im 0 (.sc (.int .i64 r.2.2))])], []) := by
  unfold impl_FewestBlades at h
  refine FL_goS (A := [(0, .v true [.im 2 (.sc (.string b_0.Name)), .im 2 (.sc (.int .i64 b_0.Life)), .im 2 (.sc (.int .i64 b_0.Price)), .im 2 (.sc (.int .i64 b_0.Speed))]), (1, .v false [.im 2 (.row 3 (List.map e_S_Cutting list_1))]), (2, .v false [.im 2 (.sc (.int .i64 budget_2))])]) (B := [(0, none), (1, none), (2, none)]) (nt := 52) rfl rfl Try.func37 rfl rfl rfl rfl ?_
  refine Go.seq ?_
  refine Go.r0 c37 rfl rfl (sq z37 (oBx rfl tF54 rfl (tkI (tkI (tkI (tkI tk0))))) <| sq z37 (oAsN rfl rfl eF27) <| sq z37 (oAsI rfl rfl) <| sq z37 (oAsI rfl rfl) <| nl) ?_
  refine Unw.seq ?_
  refine Go.seq ?_
  obtain ⟨x18, hx18, h⟩ := bs h
  refine Go.r0 c37 rfl rfl (sq z37 (oLd (cs := [.im 0 _, .im 0 _, .im 0 _, .im 0 _]) rfl tF54 rfl rfl) <| sq z37 (oMv rfl rfl) <| sq z37 (oCa (xs := [.v true [.im 0 _, .im 0 _, .im 0 _, .im 0 _], .v false [.im 2 _]]) (vs := [(false, [.im 0 _]), (false, [.im 0 _])]) (v := .tup [(false, [.im 0 _]), (false, [.im 0 _])]) (L_impl_wears hx18) (.inl rfl) rfl kF114_54_56 rfl (ppC rfl (ppC rfl pp0)) rfl rfl pb0 rfl rfl rfl) <| sq z37 (oMvT rfl rfl) <| sq z37 (oEx rfl rfl rfl) <| sq z37 (oEx rfl rfl rfl) <| sq z37 (oAsI rfl rfl) <| sq z37 (oAsI rfl rfl) <| nl) ?_
  refine Unw.seq ?_
  refine Go.seq ?_
  refine Go.seq ?_
  obtain ⟨t_27_m2, hm12, h⟩ := bs h
  refine Go.rX c37 rfl rfl rfl (mk [(2, iv budget_2), (3, .v false [.mp 3 0 0]), (9, .v false [.im 0 (.row 1 (List.map eI x18.1))]), (10, iv x18.2), (27, bv t_27_m2)] [(3, some ⟨0, 0, false, true, false, true, [⟨.imm, 0, 0, .sc (.string b_0.Name)⟩, ⟨.imm, 0, 0, .sc (.int .i64 b_0.Life)⟩, ⟨.imm, 0, 0, .sc (.int .i64 b_0.Price)⟩, ⟨.imm, 0, 0, .sc (.int .i64 b_0.Speed)⟩]⟩)]) ?_ ?_
  · by_cases hc1 : x18.2 = 0
    · rw [if_pos hc1] at hm12
      obtain ⟨x25, hx25, hm12⟩ := bs hm12
      cases hm12
      exact ⟨_, sq z37 (oMv rfl rfl) <| sq z37 (oBi rfl rfl rfl rfl) <| sq z37 (oMv rfl rfl) <| sgT z37 rfl rfl (iEq.2 hc1) (oMv rfl rfl) <| sgT z37 rfl rfl (iEq.2 hc1) (oCa (xs := [.v false [.im 2 _], .v false [.im 0 _], .v false [.im 0 _]]) (vs := [(false, [.im 0 _])]) (v := .v false [.im 0 _]) (L_impl_within hx25) (.inl rfl) rfl kF92_2_2_2 rfl (ppC rfl (ppC rfl (ppC rfl pp0))) rfl rfl pb0 rfl rfl rfl) <| sgT z37 rfl rfl (iEq.2 hc1) (oUn rfl rfl rfl) <| sq z37 (oPkT rfl rfl (iEq.2 hc1) rfl) <| nl, (by kernel_rfl)⟩
    · rw [if_neg hc1] at hm12
      cases hm12
      exact ⟨_, sq z37 (oMv rfl rfl) <| sq z37 (oBi rfl rfl rfl rfl) <| sq z37 (oMv rfl rfl) <| sgF rfl rfl (byF iEq hc1) rfl <| sgF rfl rfl (byF iEq hc1) rfl <| sgF rfl rfl (byF iEq hc1) rfl <| sq z37 (oPkF rfl rfl (byF iEq hc1) rfl) <| nl, (by kernel_rfl)⟩
  · refine Unw.seq ?_
    refine Go.join (fun st => ∃ code_10_r4, impl_FewestBlades_k4 b_0 budget_2 x18 code_10_r4 = some r ∧ st.norm ([2, 3, 9, 10], [3]) = mk [(2, iv budget_2), (3, .v false [.mp 3 0 0]), (9, .v false [.im 0 (.row 1 (List.map eI x18.1))]), (10, iv code_10_r4)] [(3, some ⟨0, 0, false, true, false, true, [⟨.imm, 0, 0, .sc (.string b_0.Name)⟩, ⟨.imm, 0, 0, .sc (.int .i64 b_0.Life)⟩, ⟨.imm, 0, 0, .sc (.int .i64 b_0.Price)⟩, ⟨.imm, 0, 0, .sc (.int .i64 b_0.Speed)⟩]⟩)]) ?_ ?_
    · rintro st ⟨code_10_r4, h, hst⟩
      unfold impl_FewestBlades_k4 at h
      refine Unw.seq ?_
      refine Go.seq ?_
      refine Go.seq ?_
      refine Go.r1 c37 rfl rfl hst (sq z37 (oMv rfl rfl) <| sq z37 (oBi rfl rfl rfl rfl) <| nl) ?_
      refine Unw.seq ?_
      by_cases hc3 : code_10_r4 ≠ 0
      · rw [if_pos hc3] at h
        refine Go.condT rfl (iNe.2 hc3) ?_
        refine Go.seq ?_
        refine Go.r0 c37 rfl rfl (sq z37 (oMv rfl rfl) <| sq z37 (oAsN rfl rfl eF27) <| sq z37 (oAsI rfl rfl) <| sq z37 (oAsI rfl rfl) <| nl) ?_
        refine Unw.seq ?_
        refine Go.ret (Unw.ret ?_)
        cases h
        exact Fin_ret (fin_of rfl rF37 rfl (by kernel_rfl))
      · rw [if_neg hc3] at h
        refine Go.condF rfl (byF iNe hc3) ?_
        refine Go.skip ?_
        refine Unw.seq ?_
        refine Go.seq ?_
        refine Go.r0 c37 rfl rfl (sq z37 (oMv rfl rfl) <| sq z37 (oFA (r' := .mp 3 0 1) rfl fF54_1 rfl rfl) <| sq z37 (oLd (cs := [.im 0 _]) rfl tF2 rfl rfl) <| sq z37 (oMv rfl rfl) <| sq z37 (oBu (cs := [.im 0 _, .im 0 _, .im 0 _]) rfl bF168 rfl) <| sq z37 (oBx rfl tF168 rfl (tkI (tkI (tkI tk0)))) <| sq z37 (oAsP rfl rfl) <| nl) ?_
        refine Unw.seq ?_
        refine Go.seq ?_
        refine Go.r0 c37 rfl rfl (sq z37 (oAsI rfl rfl) <| nl) ?_
        refine Unw.seq ?_
        refine Go.block ?_
        obtain ⟨o, hl, h⟩ := bs h
        refine Go.lp c37 rfl _ (fun (s : (Int × (List Int) × Int × Int)) => match s with | (m_12_l9, o_o36_0_l9, o_o36_1_l9, o_o36_2_l9) => mk [(11, .v false [.mp 36 0 0]), (12, iv m_12_l9)] [(36, some ⟨0, 0, false, true, false, true, [⟨.imm, 0, 0, .row 1 (List.map eI o_o36_0_l9)⟩, ⟨.imm, 0, 0, .sc (.int .i64 o_o36_1_l9)⟩, ⟨.imm, 0, 0, .sc (.int .i64 o_o36_2_l9)⟩]⟩)]) (fun (r2 : ((List Int) × Int × Int)) (p : Ex × St) => p.1 = .ret ∧ fin Try.prog cfg 37 Try.f37 [.im 2 true [.sc (.string b_0.Name), .sc (.int .i64 b_0.Life), .sc (.int .i64 b_0.Price), .sc (.int .i64 b_0.Speed)], .im 2 false [.row 3 (List.map e_S_Cutting list_1)], .im 2 false [.sc (.int .i64 budget_2)]] p.2 = some ([(false, [.ow 0 1 (List.map eI r2.1)]), (false, [.im 0 (.sc (.int .i64 r2.2.1))]), (false, [.im 0 (.sc (.int .i64 r2.2.2))])], [])) hl (by kernel_rfl) ?_ ?_ ?_
        · intro o p hp e
          exact nomatch (hp.1.symm.trans e)
        · rintro ⟨m_12_l9, o_o36_0_l9, o_o36_1_l9, o_o36_2_l9⟩ o h
          unfold impl_FewestBlades_l9 at h
          dsimp only at h
          refine Go.seq ?_
          refine Go.block ?_
          refine Go.seq ?_
          obtain ⟨x42, hx42, h⟩ := bs h
          refine Go.r0 c37 rfl rfl (sq z37 (oMv rfl rfl) <| sq z37 (oMv rfl rfl) <| sq z37 (oCr (xs := [.v false [.mp 36 0 0], .v false [.nil], .v false [.nil], .v false [.im 0 _]]) (vs := [(false, [.own 42 0 0]), (false, [.im 0 _])]) (v := .tup [(false, [.own 42 0 0]), (false, [.im 0 _])]) (c := ⟨.sh, 0, _⟩) (cs := []) (L_impl_bladeSearch_run hx42) (.inl rfl) rfl kF115_166_27_27_3 rfl (ppP rfl rfl rfl (ppM take_nil (ppC rfl (ppC rfl pp0)))) rfl rfl (pbP rfl rfl pb0) rfl rfl rfl) <| sq z37 (oMvT rfl rfl) <| sq z37 (oEx rfl rfl rfl) <| sq z37 (oEx rfl rfl rfl) <| sq z37 (oAsO rfl rfl rfl rfl rfl) <| sq z37 (oAsI rfl rfl) <| nl) ?_
          refine Unw.seq ?_
          refine Go.seq ?_
          refine Go.seq ?_
          refine Go.r1 c37 rfl rfl (st1 := mk [(11, .v false [.mp 36 0 0]), (12, iv m_12_l9), (13, .v false [.own 13 0 0]), (14, iv x42.2.1)] [(13, some ⟨0, 0, false, false, false, false, [⟨.sh, 0, 0, .row 1 (List.map eI x42.1)⟩]⟩), (36, some ⟨0, 0, false, true, false, true, [⟨.imm, 0, 0, .row 1 (List.map eI x42.2.2.wears)⟩, ⟨.imm, 0, 0, .sc (.int .i64 x42.2.2.life)⟩, ⟨.imm, 0, 0, .sc (.int .i64 x42.2.2.left)⟩]⟩)]) (by kernel_rfl) (sq z37 (oMv rfl rfl) <| sq z37 (oBi rfl rfl rfl rfl) <| nl) ?_
          refine Unw.seq ?_
          by_cases hc8 : x42.2.1 = 0
          · rw [if_pos hc8] at h
            refine Go.condT rfl (iEq.2 hc8) ?_
            refine Go.seq ?_
            refine Go.r0 c37 rfl rfl (sq z37 (oMv rfl rfl) <| sq z37 (oMv rfl rfl) <| sq z37 (oAsO rfl rfl rfl rfl rfl) <| sq z37 (oAsI rfl rfl) <| sq z37 (oAsI rfl rfl) <| nl) ?_
            refine Unw.seq ?_
            refine Go.ret (Unw.ret ?_)
            cases h
            exact ⟨rfl, (fin_of rfl rF37 rfl (by kernel_rfl))⟩
          · rw [if_neg hc8] at h
            refine Go.condF rfl (byF iEq hc8) ?_
            refine Go.skip ?_
            refine Unw.seq ?_
            refine Go.seq ?_
            refine Go.r0 c37 rfl rfl (sq z37 (oMv rfl rfl) <| sq z37 (oBi rfl rfl rfl rfl) <| nl) ?_
            refine Unw.seq ?_
            by_cases hc9 : x42.2.1 ≠ 3
            · rw [if_pos hc9] at h
              refine Go.condT rfl (iNe.2 hc9) ?_
              refine Go.seq ?_
              refine Go.r0 c37 rfl rfl (sq z37 (oMv rfl rfl) <| sq z37 (oAsN rfl rfl eF27) <| sq z37 (oAsI rfl rfl) <| sq z37 (oAsI rfl rfl) <| nl) ?_
              refine Unw.seq ?_
              refine Go.ret (Unw.ret ?_)
              cases h
              exact ⟨rfl, (fin_of rfl rF37 rfl (by kernel_rfl))⟩
            · rw [if_neg hc9] at h
              refine Go.condF rfl (byF iNe hc9) ?_
              refine Go.skip ?_
              refine Unw.blk ?_
              refine Unw.seq ?_
              refine Go.r0 c37 rfl rfl (sq z37 (oMv rfl rfl) <| sq z37 (oBi rfl rfl rfl rfl) <| sq z37 (oAsI rfl rfl) <| nl) ?_
              refine Unw.nil ?_
              cases h
              exact ⟨rfl, (by kernel_rfl)⟩
        · rintro ⟨e, st⟩ hp
          obtain ⟨r2, rfl⟩ : ∃ y, y = o := ⟨o, rfl⟩
          obtain ⟨he, hfin⟩ := hp
          obtain rfl : e = .ret := he
          cases h
          exact Unw.ret (Fin_ret hfin)
    · intro K10
      by_cases hc11 : t_27_m2 = true
      · rw [if_pos hc11] at h
        refine Go.condT rfl (Iff.rfl.2 hc11) ?_
        refine Go.r0 c37 rfl rfl (sq z37 (oAsI rfl rfl) <| nl) ?_
        exact K10 _ ⟨2, h, (by kernel_rfl)⟩
      · rw [if_neg hc11] at h
        refine Go.condF rfl (byF Iff.rfl hc11) ?_
        refine Go.skip ?_
        exact K10 _ ⟨x18.2, h, (by kernel_rfl)⟩
theorem L_laws_eqInt64S {a_0 : (List Int)} {b_1 : (List Int)} {r : Bool} (h : laws_eqInt64S a_0 b_1 = some r) : FL Try.prog cfg 27 [.im 2 false [.row 1 (List.map eI a_0)], .im 2 false [.row 1 (List.map eI b_1)]] = some ([(false, [.im 0 (.sc (.bool r))])], []) := by
  unfold laws_eqInt64S at h
  refine FL_goS (A := [(0, .v false [.im 2 (.row 1 (List.map eI a_0))]), (1, .v false [.im 2 (.row 1 (List.map eI b_1))])]) (B := [(0, none), (1, none)]) (nt := 26) rfl rfl Try.func27 rfl rfl rfl rfl ?_
  refine Go.seq ?_
  refine Go.r0 c27 rfl rfl (sq z27 (oAsI rfl rfl) <| nl) ?_
  refine Unw.seq ?_
  refine Go.seq ?_
  refine Go.seq ?_
  refine Go.r0 c27 rfl rfl (sq z27 (oMv rfl rfl) <| sq z27 (oLnI rfl rfl uF27 rfl) <| sq z27 (oMv rfl rfl) <| sq z27 (oLnI rfl rfl uF27 rfl) <| sq z27 (oBi rfl rfl rfl rfl) <| nl) ?_
  refine Unw.seq ?_
  by_cases hc1 : (a_0.length : Int) ≠ (b_1.length : Int)
  · rw [if_pos hc1] at h
    refine Go.condT rfl (iNe.2 hc1) ?_
    refine Go.seq ?_
    refine Go.r0 c27 rfl rfl (sq z27 (oAsI rfl rfl) <| nl) ?_
    refine Unw.seq ?_
    refine Go.ret (Unw.ret ?_)
    cases h
    exact Fin_ret (fin_of rfl rF27 rfl (by kernel_rfl))
  · rw [if_neg hc1] at h
    refine Go.condF rfl (byF iNe hc1) ?_
    refine Go.skip ?_
    refine Unw.seq ?_
    refine Go.seq ?_
    refine Go.seq ?_
    refine Go.r0 c27 rfl rfl (sq z27 (oAsI rfl rfl) <| nl) ?_
    refine Unw.seq ?_
    refine Go.block ?_
    obtain ⟨o, hl, h⟩ := bs h
    refine Go.lp c27 rfl _ (fun (i_5_l4 : Int) => mk [(0, .v false [.im 2 (.row 1 (List.map eI a_0))]), (1, .v false [.im 2 (.row 1 (List.map eI b_1))]), (5, iv i_5_l4)] []) (fun (o : (Unit ⊕ Bool)) (p : Ex × St) => match o with | (.inl _) => p.1 = .exit 0 ∧ p.2.norm ([], []) = mk [] [] | (.inr r2) => p.1 = .ret ∧ fin Try.prog cfg 27 Try.f27 [.im 2 false [.row 1 (List.map eI a_0)], .im 2 false [.row 1 (List.map eI b_1)]] p.2 = some ([(false, [.im 0 (.sc (.bool r2))])], [])) hl (by kernel_rfl) ?_ ?_ ?_
    · intro o p hp e
      rcases o with u | r2 <;> exact nomatch (hp.1.symm.trans e)
    · rintro i_5_l4 o h
      unfold laws_eqInt64S_l4 at h
      refine Go.seq ?_
      refine Go.seq ?_
      refine Go.r0 c27 rfl rfl (sq z27 (oMv rfl rfl) <| sq z27 (oMv rfl rfl) <| sq z27 (oLnI rfl rfl uF27 rfl) <| sq z27 (oBi rfl rfl rfl rfl) <| nl) ?_
      refine Unw.seq ?_
      by_cases hc6 : i_5_l4 < (a_0.length : Int)
      · rw [if_pos hc6] at h
        refine Go.condT rfl (iDec.2 hc6) ?_
        refine Go.skip ?_
        refine Unw.seq ?_
        refine Go.seq ?_
        refine Go.block ?_
        refine Go.seq ?_
        obtain ⟨x19, hx19, h⟩ := bs h
        obtain ⟨x23, hx23, h⟩ := bs h
        refine Go.dr c27 rfl rfl rfl rfl (mk [(0, .v false [.im 2 (.row 1 (List.map eI a_0))]), (1, .v false [.im 2 (.row 1 (List.map eI b_1))]), (5, iv i_5_l4), (25, bv (x19 != x23))] []) (sT rfl (dN z27 rfl (oMv rfl rfl)) <| sT rfl (dN z27 rfl (oMv rfl rfl)) <| sT rfl (dN z27 rfl (oIAI rfl hx19 sF27 rfl rfl)) <| sT rfl (dN z27 rfl (oLd (cs := [.im 2 _]) rfl tF2 rfl rfl)) <| sT rfl (dN z27 rfl (oMv rfl rfl)) <| sT rfl (dN z27 rfl (oMv rfl rfl)) <| sT rfl (dN z27 rfl (oIAI rfl hx23 sF27 rfl rfl)) <| sT rfl (dN z27 rfl (oLd (cs := [.im 2 _]) rfl tF2 rfl rfl)) <| sT rfl (dN z27 rfl (oBi rfl rfl rfl rfl)) <| sD (by kernel_rfl)) ?_
        refine Unw.seq ?_
        by_cases hc7 : x19 ≠ x23
        · rw [if_pos hc7] at h
          refine Go.condT rfl (iNe.2 hc7) ?_
          refine Go.seq ?_
          refine Go.r0 c27 rfl rfl (sq z27 (oAsI rfl rfl) <| nl) ?_
          refine Unw.seq ?_
          refine Go.ret (Unw.ret ?_)
          cases h
          exact ⟨rfl, (fin_of rfl rF27 rfl (by kernel_rfl))⟩
        · rw [if_neg hc7] at h
          refine Go.condF rfl (byF iNe hc7) ?_
          refine Go.skip ?_
          refine Unw.blk ?_
          refine Unw.seq ?_
          refine Go.r0 c27 rfl rfl (sq z27 (oMv rfl rfl) <| sq z27 (oBi rfl rfl rfl rfl) <| sq z27 (oAsI rfl rfl) <| nl) ?_
          refine Unw.nil ?_
          cases h
          exact ⟨rfl, (by kernel_rfl)⟩
      · rw [if_neg hc6] at h
        refine Go.condF rfl (byF iDec hc6) ?_
        refine Go.exit ?_
        refine Unw.seqx ?_
        refine Unw.nil ?_
        cases h
        exact ⟨rfl, (by kernel_rfl)⟩
    · rintro ⟨e, st⟩ hp
      rcases o with u | r2
      · dsimp only at h
        obtain ⟨he, hst⟩ := hp
        obtain rfl : e = .exit 0 := he
        refine Unw.blkx ?_
        refine Unw.seq ?_
        refine Go.seq ?_
        refine Go.r1 c27 rfl rfl hst (sq z27 (oAsI rfl rfl) <| nl) ?_
        refine Unw.seq ?_
        refine Go.ret (Unw.ret ?_)
        cases h
        exact Fin_ret (fin_of rfl rF27 rfl (by kernel_rfl))
      · dsimp only at h
        obtain ⟨he, hfin⟩ := hp
        obtain rfl : e = .ret := he
        cases h
        exact Unw.ret (Fin_ret hfin)
theorem L_laws_eqCutting {a_0 : S_Cutting} {b_1 : S_Cutting} {r : Bool} (h : laws_eqCutting a_0 b_1 = some r) : FL Try.prog cfg 116 [.im 2 true [.sc (.string a_0.Name), .sc (.int .i64 a_0.Length), .sc (.int .i64 a_0.Hardness)], .im 2 true [.sc (.string b_1.Name), .sc (.int .i64 b_1.Length), .sc (.int .i64 b_1.Hardness)]] = some ([(false, [.im 0 (.sc (.bool r))])], []) := by
  unfold laws_eqCutting at h
  refine FL_goS (A := [(0, .v true [.im 2 (.sc (.string a_0.Name)), .im 2 (.sc (.int .i64 a_0.Length)), .im 2 (.sc (.int .i64 a_0.Hardness))]), (1, .v true [.im 2 (.sc (.string b_1.Name)), .im 2 (.sc (.int .i64 b_1.Length)), .im 2 (.sc (.int .i64 b_1.Hardness))])]) (B := [(0, none), (1, none)]) (nt := 20) rfl rfl Try.func116 rfl rfl rfl rfl ?_
  refine Go.seq ?_
  refine Go.r0 c116 rfl rfl (sq z116 (oBx rfl tF163 rfl (tkI (tkI (tkI tk0)))) <| sq z116 (oBx rfl tF163 rfl (tkI (tkI (tkI tk0)))) <| sq z116 (oAsI rfl rfl) <| nl) ?_
  refine Unw.seq ?_
  refine Go.seq ?_
  refine Go.seq ?_
  refine Go.r0 c116 rfl rfl (sq z116 (oFA (r' := .mp 2 0 0) rfl fF163_0 rfl rfl) <| sq z116 (oLd (cs := [.im 0 _]) rfl tF9 rfl rfl) <| sq z116 (oFA (r' := .mp 3 0 0) rfl fF163_0 rfl rfl) <| sq z116 (oLd (cs := [.im 0 _]) rfl tF9 rfl rfl) <| sq z116 (oBi rfl rfl rfl rfl) <| nl) ?_
  refine Unw.seq ?_
  by_cases hc1 : ¬ (a_0.Name = b_1.Name)
  · rw [if_pos hc1] at h
    refine Go.condT rfl ((iNot iStr).2 hc1) ?_
    refine Go.seq ?_
    refine Go.r0 c116 rfl rfl (sq z116 (oAsI rfl rfl) <| nl) ?_
    refine Unw.seq ?_
    refine Go.ret (Unw.ret ?_)
    cases h
    exact Fin_ret (fin_of rfl rF116 rfl (by kernel_rfl))
  · rw [if_neg hc1] at h
    refine Go.condF rfl (byF (iNot iStr) hc1) ?_
    refine Go.skip ?_
    refine Unw.seq ?_
    refine Go.seq ?_
    refine Go.seq ?_
    refine Go.r0 c116 rfl rfl (sq z116 (oFA (r' := .mp 2 0 1) rfl fF163_1 rfl rfl) <| sq z116 (oLd (cs := [.im 0 _]) rfl tF2 rfl rfl) <| sq z116 (oFA (r' := .mp 3 0 1) rfl fF163_1 rfl rfl) <| sq z116 (oLd (cs := [.im 0 _]) rfl tF2 rfl rfl) <| sq z116 (oBi rfl rfl rfl rfl) <| nl) ?_
    refine Unw.seq ?_
    by_cases hc2 : a_0.Length ≠ b_1.Length
    · rw [if_pos hc2] at h
      refine Go.condT rfl (iNe.2 hc2) ?_
      refine Go.seq ?_
      refine Go.r0 c116 rfl rfl (sq z116 (oAsI rfl rfl) <| nl) ?_
      refine Unw.seq ?_
      refine Go.ret (Unw.ret ?_)
      cases h
      exact Fin_ret (fin_of rfl rF116 rfl (by kernel_rfl))
    · rw [if_neg hc2] at h
      refine Go.condF rfl (byF iNe hc2) ?_
      refine Go.skip ?_
      refine Unw.seq ?_
      refine Go.seq ?_
      refine Go.seq ?_
      refine Go.r0 c116 rfl rfl (sq z116 (oFA (r' := .mp 2 0 2) rfl fF163_2 rfl rfl) <| sq z116 (oLd (cs := [.im 0 _]) rfl tF2 rfl rfl) <| sq z116 (oFA (r' := .mp 3 0 2) rfl fF163_2 rfl rfl) <| sq z116 (oLd (cs := [.im 0 _]) rfl tF2 rfl rfl) <| sq z116 (oBi rfl rfl rfl rfl) <| nl) ?_
      refine Unw.seq ?_
      by_cases hc3 : a_0.Hardness ≠ b_1.Hardness
      · rw [if_pos hc3] at h
        refine Go.condT rfl (iNe.2 hc3) ?_
        refine Go.seq ?_
        refine Go.r0 c116 rfl rfl (sq z116 (oAsI rfl rfl) <| nl) ?_
        refine Unw.seq ?_
        refine Go.ret (Unw.ret ?_)
        cases h
        exact Fin_ret (fin_of rfl rF116 rfl (by kernel_rfl))
      · rw [if_neg hc3] at h
        refine Go.condF rfl (byF iNe hc3) ?_
        refine Go.skip ?_
        refine Unw.seq ?_
        refine Go.seq ?_
        refine Go.r0 c116 rfl rfl (sq z116 (oAsI rfl rfl) <| nl) ?_
        refine Unw.seq ?_
        refine Go.ret (Unw.ret ?_)
        cases h
        exact Fin_ret (fin_of rfl rF116 rfl (by kernel_rfl))
theorem L_laws_eqCuttingS {a_0 : (List S_Cutting)} {b_1 : (List S_Cutting)} {r : Bool} (h : laws_eqCuttingS a_0 b_1 = some r) : FL Try.prog cfg 38 [.im 2 false [.row 3 (List.map e_S_Cutting a_0)], .im 2 false [.row 3 (List.map e_S_Cutting b_1)]] = some ([(false, [.im 0 (.sc (.bool r))])], []) := by
  unfold laws_eqCuttingS at h
  refine FL_goS (A := [(0, .v false [.im 2 (.row 3 (List.map e_S_Cutting a_0))]), (1, .v false [.im 2 (.row 3 (List.map e_S_Cutting b_1))])]) (B := [(0, none), (1, none)]) (nt := 27) rfl rfl Try.func38 rfl rfl rfl rfl ?_
  refine Go.seq ?_
  refine Go.r0 c38 rfl rfl (sq z38 (oAsI rfl rfl) <| nl) ?_
  refine Unw.seq ?_
  refine Go.seq ?_
  refine Go.seq ?_
  refine Go.r0 c38 rfl rfl (sq z38 (oMv rfl rfl) <| sq z38 (oLnI rfl rfl uF56 rfl) <| sq z38 (oMv rfl rfl) <| sq z38 (oLnI rfl rfl uF56 rfl) <| sq z38 (oBi rfl rfl rfl rfl) <| nl) ?_
  refine Unw.seq ?_
  by_cases hc1 : (a_0.length : Int) ≠ (b_1.length : Int)
  · rw [if_pos hc1] at h
    refine Go.condT rfl (iNe.2 hc1) ?_
    refine Go.seq ?_
    refine Go.r0 c38 rfl rfl (sq z38 (oAsI rfl rfl) <| nl) ?_
    refine Unw.seq ?_
    refine Go.ret (Unw.ret ?_)
    cases h
    exact Fin_ret (fin_of rfl rF38 rfl (by kernel_rfl))
  · rw [if_neg hc1] at h
    refine Go.condF rfl (byF iNe hc1) ?_
    refine Go.skip ?_
    refine Unw.seq ?_
    refine Go.seq ?_
    refine Go.seq ?_
    refine Go.r0 c38 rfl rfl (sq z38 (oAsI rfl rfl) <| nl) ?_
    refine Unw.seq ?_
    refine Go.block ?_
    obtain ⟨o, hl, h⟩ := bs h
    refine Go.lp c38 rfl _ (fun (i_5_l4 : Int) => mk [(0, .v false [.im 2 (.row 3 (List.map e_S_Cutting a_0))]), (1, .v false [.im 2 (.row 3 (List.map e_S_Cutting b_1))]), (5, iv i_5_l4)] []) (fun (o : (Unit ⊕ Bool)) (p : Ex × St) => match o with | (.inl _) => p.1 = .exit 0 ∧ p.2.norm ([], []) = mk [] [] | (.inr r2) => p.1 = .ret ∧ fin Try.prog cfg 38 Try.f38 [.im 2 false [.row 3 (List.map e_S_Cutting a_0)], .im 2 false [.row 3 (List.map e_S_Cutting b_1)]] p.2 = some ([(false, [.im 0 (.sc (.bool r2))])], [])) hl (by kernel_rfl) ?_ ?_ ?_
    · intro o p hp e
      rcases o with u | r2 <;> exact nomatch (hp.1.symm.trans e)
    · rintro i_5_l4 o h
      unfold laws_eqCuttingS_l4 at h
      refine Go.seq ?_
      refine Go.seq ?_
      refine Go.r0 c38 rfl rfl (sq z38 (oMv rfl rfl) <| sq z38 (oMv rfl rfl) <| sq z38 (oLnI rfl rfl uF56 rfl) <| sq z38 (oBi rfl rfl rfl rfl) <| nl) ?_
      refine Unw.seq ?_
      by_cases hc6 : i_5_l4 < (a_0.length : Int)
      · rw [if_pos hc6] at h
        refine Go.condT rfl (iDec.2 hc6) ?_
        refine Go.skip ?_
        refine Unw.seq ?_
        refine Go.seq ?_
        refine Go.block ?_
        refine Go.seq ?_
        obtain ⟨x19, hx19, h⟩ := bs h
        obtain ⟨x23, hx23, h⟩ := bs h
        obtain ⟨x25, hx25, h⟩ := bs h
        refine Go.dr c38 rfl rfl rfl rfl (mk [(0, .v false [.im 2 (.row 3 (List.map e_S_Cutting a_0))]), (1, .v false [.im 2 (.row 3 (List.map e_S_Cutting b_1))]), (5, iv i_5_l4), (26, bv (!x25))] []) (sT rfl (dN z38 rfl (oMv rfl rfl)) <| sT rfl (dN z38 rfl (oMv rfl rfl)) <| sT rfl (dN z38 rfl (oIAI rfl hx19 sF56 rfl rfl)) <| sT rfl (dN z38 rfl (oLd (cs := [.im 2 _, .im 2 _, .im 2 _]) rfl tF163 rfl rfl)) <| sT rfl (dN z38 rfl (oMv rfl rfl)) <| sT rfl (dN z38 rfl (oMv rfl rfl)) <| sT rfl (dN z38 rfl (oIAI rfl hx23 sF56 rfl rfl)) <| sT rfl (dN z38 rfl (oLd (cs := [.im 2 _, .im 2 _, .im 2 _]) rfl tF163 rfl rfl)) <| sS (dN z38 rfl (oCa (xs := [.v true [.im 2 _, .im 2 _, .im 2 _], .v true [.im 2 _, .im 2 _, .im 2 _]]) (vs := [(false, [.im 0 _])]) (v := .v false [.im 0 _]) (L_laws_eqCutting hx25) (.inl rfl) rfl kF116_163_163 rfl (ppC rfl (ppC rfl pp0)) rfl rfl pb0 rfl rfl rfl)) trivial (sT rfl (dN z38 rfl (oUn rfl rfl rfl)) <| sD (by kernel_rfl))) ?_
        refine Unw.seq ?_
        by_cases hc7 : x25 = true
        · rw [if_pos hc7] at h
          refine Go.condF rfl (nF (Iff.rfl.2 hc7)) ?_
          refine Go.skip ?_
          refine Unw.blk ?_
          refine Unw.seq ?_
          refine Go.r0 c38 rfl rfl (sq z38 (oMv rfl rfl) <| sq z38 (oBi rfl rfl rfl rfl) <| sq z38 (oAsI rfl rfl) <| nl) ?_
          refine Unw.nil ?_
          cases h
          exact ⟨rfl, (by kernel_rfl)⟩
        · rw [if_neg hc7] at h
          refine Go.condT rfl (nT (byF Iff.rfl hc7)) ?_
          refine Go.seq ?_
          refine Go.r0 c38 rfl rfl (sq z38 (oAsI rfl rfl) <| nl) ?_
          refine Unw.seq ?_
          refine Go.ret (Unw.ret ?_)
          cases h
          exact ⟨rfl, (fin_of rfl rF38 rfl (by kernel_rfl))⟩
      · rw [if_neg hc6] at h
        refine Go.condF rfl (byF iDec hc6) ?_
        refine Go.exit ?_
        refine Unw.seqx ?_
        refine Unw.nil ?_
        cases h
        exact ⟨rfl, (by kernel_rfl)⟩
    · rintro ⟨e, st⟩ hp
      rcases o with u | r2
      · dsimp only at h
        obtain ⟨he, hst⟩ := hp
        obtain rfl : e = .exit 0 := he
        refine Unw.blkx ?_
        refine Unw.seq ?_
        refine Go.seq ?_
        refine Go.r1 c38 rfl rfl hst (sq z38 (oAsI rfl rfl) <| nl) ?_
        refine Unw.seq ?_
        refine Go.ret (Unw.ret ?_)
        cases h
        exact Fin_ret (fin_of rfl rF38 rfl (by kernel_rfl))
      · dsimp only at h
        obtain ⟨he, hfin⟩ := hp
        obtain rfl : e = .ret := he
        cases h
        exact Unw.ret (Fin_ret hfin)
theorem L_laws_markText {k_0 : Int} {r : ByteArray} (h : laws_markText k_0 = some r) : FL Try.prog cfg 108 [.im 2 false [.sc (.int .i64 k_0)]] = some ([(false, [.im 0 (.sc (.string r))])], []) := by
  unfold laws_markText at h
  refine FL_goS (A := [(0, .v false [.im 2 (.sc (.int .i64 k_0))])]) (B := [(0, none)]) (nt := 20) rfl rfl Try.func108 rfl rfl rfl rfl ?_
  refine Go.seq ?_
  refine Go.r0 c108 rfl rfl (sq z108 (oAsI rfl rfl) <| nl) ?_
  refine Unw.seq ?_
  refine Go.seq ?_
  refine Go.seq ?_
  refine Go.r0 c108 rfl rfl (sq z108 (oMv rfl rfl) <| sq z108 (oBi rfl rfl rfl rfl) <| nl) ?_
  refine Unw.seq ?_
  by_cases hc1 : k_0 ≤ 0
  · rw [if_pos hc1] at h
    refine Go.condT rfl (iDec.2 hc1) ?_
    refine Go.seq ?_
    refine Go.r0 c108 rfl rfl (sq z108 (oAsI rfl rfl) <| nl) ?_
    refine Unw.seq ?_
    refine Go.ret (Unw.ret ?_)
    cases h
    exact Fin_ret (fin_of rfl rF108 rfl (by kernel_rfl))
  · rw [if_neg hc1] at h
    refine Go.condF rfl (byF iDec hc1) ?_
    refine Go.skip ?_
    refine Unw.seq ?_
    refine Go.seq ?_
    refine Go.r0 c108 rfl rfl (sq z108 (oAsI rfl rfl) <| nl) ?_
    refine Unw.seq ?_
    refine Go.seq ?_
    refine Go.block ?_
    obtain ⟨o, hl, h⟩ := bs h
    refine Go.lp c108 rfl _ (fun (s : (Int × ByteArray)) => match s with | (k_0_l4, out_3_l4) => mk [(0, iv k_0_l4), (3, sv out_3_l4)] []) (fun (out_3_e0_4 : ByteArray) (p : Ex × St) => p.1 = .exit 0 ∧ p.2.norm ([3], []) = mk [(3, sv out_3_e0_4)] []) hl (by kernel_rfl) ?_ ?_ ?_
    · intro o p hp e
      exact nomatch (hp.1.symm.trans e)
    · rintro ⟨k_0_l4, out_3_l4⟩ o h
      unfold laws_markText_l4 at h
      dsimp only at h
      refine Go.seq ?_
      refine Go.seq ?_
      refine Go.r0 c108 rfl rfl (sq z108 (oMv rfl rfl) <| sq z108 (oBi rfl rfl rfl rfl) <| nl) ?_
      refine Unw.seq ?_
      by_cases hc4 : k_0_l4 > 0
      · rw [if_pos hc4] at h
        refine Go.condT rfl (iDec.2 hc4) ?_
        refine Go.skip ?_
        refine Unw.seq ?_
        refine Go.block ?_
        refine Go.seq ?_
        obtain ⟨x9, hx9, h⟩ := bs h
        obtain ⟨x15, hx15, h⟩ := bs h
        refine Go.r0 c108 rfl rfl (sq z108 (oMv rfl rfl) <| sq z108 (oRem rfl hx9 rfl rfl) <| sq z108 (oBi rfl rfl rfl rfl) <| sq z108 (oCvI rfl uF3 uF5 rfl) <| sq z108 (oBS (es := List.map (eK .u8) ([(IntKind.wrap .u8 ((w64 (48 + x9))))] : List Int)) rfl sF22 rfl (ptC rfl (fxI fx0) rfl pt0) (flat0 rfl fun _ => rfl)) <| sq z108 (oCvB (l := ([(IntKind.wrap .u8 ((w64 (48 + x9))))] : List Int)) rfl uF22 uF5 uF9 rfl (el_own rfl rfl)) <| sq z108 (oMv rfl rfl) <| sq z108 (oCat rfl hx15 rfl rfl) <| sq z108 (oAsI rfl rfl) <| nl) ?_
        refine Unw.seq ?_
        obtain ⟨x17, hx17, h⟩ := bs h
        refine Go.r0 c108 rfl rfl (sq z108 (oMv rfl rfl) <| sq z108 (oQuo rfl hx17 rfl rfl) <| sq z108 (oAsI rfl rfl) <| nl) ?_
        refine Unw.blk ?_
        refine Unw.nil ?_
        cases h
        exact ⟨rfl, (by kernel_rfl)⟩
      · rw [if_neg hc4] at h
        refine Go.condF rfl (byF iDec hc4) ?_
        refine Go.exit ?_
        refine Unw.seqx ?_
        refine Unw.nil ?_
        cases h
        exact ⟨rfl, (by kernel_rfl)⟩
    · rintro ⟨e, st⟩ hp
      obtain ⟨out_3_e0_4, rfl⟩ : ∃ y, y = o := ⟨o, rfl⟩
      obtain ⟨he, hst⟩ := hp
      obtain rfl : e = .exit 0 := he
      refine Unw.blkx ?_
      refine Unw.seq ?_
      refine Go.seq ?_
      obtain ⟨x19, hx19, h⟩ := bs h
      refine Go.r1 c108 rfl rfl hst (sq z108 (oMv rfl rfl) <| sq z108 (oCat rfl hx19 rfl rfl) <| sq z108 (oAsI rfl rfl) <| nl) ?_
      refine Unw.seq ?_
      refine Go.ret (Unw.ret ?_)
      cases h
      exact Fin_ret (fin_of rfl rF108 rfl (by kernel_rfl))
theorem L_laws_markCuttingS {a_0 : (List S_Cutting)} {k_1 : Int} {r : (Int × (List S_Cutting))} (h : laws_markCuttingS a_0 k_1 = some r) : FL Try.prog cfg 39 [.ow 3 (List.map e_S_Cutting a_0), .im 2 false [.sc (.int .i64 k_1)]] = some ([(false, [.im 0 (.sc (.int .i64 r.1))])], [.ow 3 (List.map e_S_Cutting r.2)]) := by
  unfold laws_markCuttingS at h
  refine FL_goS (A := [(0, .v false [.own 0 0 0]), (1, .v false [.im 2 (.sc (.int .i64 k_1))])]) (B := [(0, some ⟨0, 0, true, false, false, false, [⟨.sh, 0, 0, .row 3 (List.map e_S_Cutting a_0)⟩]⟩), (1, none)]) (nt := 35) rfl rfl Try.func39 rfl rfl rfl rfl ?_
  refine Go.seq ?_
  refine Go.r0 c39 rfl rfl (sq z39 (oAsI rfl rfl) <| nl) ?_
  refine Unw.seq ?_
  refine Go.seq ?_
  refine Go.seq ?_
  refine Go.r0 c39 rfl rfl (sq z39 (oAsI rfl rfl) <| nl) ?_
  refine Unw.seq ?_
  refine Go.block ?_
  obtain ⟨o, hl, h⟩ := bs h
  refine Go.lp c39 rfl _ (fun (s : (Int × Int × (List S_Cutting))) => match s with | (k_1_l2, i_5_l2, a_o0_l2) => mk [(0, .v false [.own 0 0 0]), (1, iv k_1_l2), (5, iv i_5_l2)] [(0, some ⟨0, 0, true, false, false, false, [⟨.sh, 0, 0, .row 3 (List.map e_S_Cutting a_o0_l2)⟩]⟩)]) (fun (o : (Int × (List S_Cutting))) (p : Ex × St) => match o with | (k_1_e0_2, a_o0_e0_2) => p.1 = .exit 0 ∧ p.2.norm ([1], [0]) = mk [(1, iv k_1_e0_2)] [(0, some ⟨0, 0, true, false, false, false, [⟨.sh, 0, 0, .row 3 (List.map e_S_Cutting a_o0_e0_2)⟩]⟩)]) hl (by kernel_rfl) ?_ ?_ ?_
  · intro o p hp e
    obtain ⟨k_1_e0_2, a_o0_e0_2⟩ := o
    exact nomatch (hp.1.symm.trans e)
  · rintro ⟨k_1_l2, i_5_l2, a_o0_l2⟩ o h
    unfold laws_markCuttingS_l2 at h
    dsimp only at h
    refine Go.seq ?_
    refine Go.seq ?_
    refine Go.r0 c39 rfl rfl (sq z39 (oMv rfl rfl) <| sq z39 (oMv rfl rfl) <| sq z39 (oLnO rfl rfl uF56 rfl rfl rfl (fun e => nomatch e)) <| sq z39 (oBi rfl rfl rfl rfl) <| nl) ?_
    refine Unw.seq ?_
    by_cases hc3 : i_5_l2 < (a_o0_l2.length : Int)
    · rw [if_pos hc3] at h
      refine Go.condT rfl (iDec.2 hc3) ?_
      refine Go.skip ?_
      refine Unw.seq ?_
      refine Go.seq ?_
      refine Go.block ?_
      refine Go.seq ?_
      obtain ⟨x15, hx15, h⟩ := bs h
      obtain ⟨x16, hx16, h⟩ := bs h
      refine Go.r0 c39 rfl rfl (sq z39 (oMv rfl rfl) <| sq z39 (oMv rfl rfl) <| sq z39 (oMv rfl rfl) <| sq z39 (oCa (xs := [.v false [.im 0 _]]) (vs := [(false, [.im 0 _])]) (v := .v false [.im 0 _]) (L_laws_markText hx15) (.inl rfl) rfl kF108_3 rfl (ppC rfl pp0) rfl rfl pb0 rfl rfl rfl) <| sq z39 (oIAO rfl hx16 sF56 rfl rfl rfl rfl) <| sq z39 (oFA (r' := .mpe 0 0 0 _ 0) rfl fF163_0 rfl rfl) <| sq z39 (oStE (v' := (⟨x15, x16.Length, x16.Hardness⟩ : S_Cutting)) tF9 rfl rfl rfl (fxI fx0) rfl rfl (rd_get hx16) rfl) <| nl) ?_
      refine Unw.seq ?_
      refine Go.seq ?_
      refine Go.r1 c39 rfl rfl (st1 := mk [(0, .v false [.own 0 0 0]), (1, iv k_1_l2), (5, iv i_5_l2)] [(0, some ⟨0, 0, true, false, false, false, [⟨.sh, 0, 0, .row 3 (List.map e_S_Cutting (a_o0_l2.set i_5_l2.toNat (⟨x15, x16.Length, x16.Hardness⟩ : S_Cutting)))⟩]⟩)]) (by kernel_rfl) (sq z39 (oMv rfl rfl) <| sq z39 (oBi rfl rfl rfl rfl) <| sq z39 (oAsI rfl rfl) <| nl) ?_
      refine Unw.seq ?_
      refine Go.seq ?_
      obtain ⟨x23, hx23, h⟩ := bs h
      refine Go.r0 c39 rfl rfl (sq z39 (oMv rfl rfl) <| sq z39 (oMv rfl rfl) <| sq z39 (oMv rfl rfl) <| sq z39 (oIAO rfl hx23 sF56 rfl rfl rfl rfl) <| sq z39 (oFA (r' := .mpe 0 0 0 _ 1) rfl fF163_1 rfl rfl) <| sq z39 (oStE (v' := (⟨x23.Name, (w64 (k_1_l2 + 1)), x23.Hardness⟩ : S_Cutting)) tF2 rfl rfl rfl (fxI fx0) rfl rfl (rd_get hx23) rfl) <| nl) ?_
      refine Unw.seq ?_
      refine Go.seq ?_
      refine Go.r1 c39 rfl rfl (st1 := mk [(0, .v false [.own 0 0 0]), (1, iv (w64 (k_1_l2 + 1))), (5, iv i_5_l2)] [(0, some ⟨0, 0, true, false, false, false, [⟨.sh, 0, 0, .row 3 (List.map e_S_Cutting ((a_o0_l2.set i_5_l2.toNat (⟨x15, x16.Length, x16.Hardness⟩ : S_Cutting)).set i_5_l2.toNat (⟨x23.Name, (w64 (k_1_l2 + 1)), x23.Hardness⟩ : S_Cutting)))⟩]⟩)]) (by kernel_rfl) (sq z39 (oMv rfl rfl) <| sq z39 (oBi rfl rfl rfl rfl) <| sq z39 (oAsI rfl rfl) <| nl) ?_
      refine Unw.seq ?_
      refine Go.seq ?_
      obtain ⟨x30, hx30, h⟩ := bs h
      refine Go.r0 c39 rfl rfl (sq z39 (oMv rfl rfl) <| sq z39 (oMv rfl rfl) <| sq z39 (oMv rfl rfl) <| sq z39 (oIAO rfl hx30 sF56 rfl rfl rfl rfl) <| sq z39 (oFA (r' := .mpe 0 0 0 _ 2) rfl fF163_2 rfl rfl) <| sq z39 (oStE (v' := (⟨x30.Name, x30.Length, (w64 ((w64 (k_1_l2 + 1)) + 1))⟩ : S_Cutting)) tF2 rfl rfl rfl (fxI fx0) rfl rfl (rd_get hx30) rfl) <| nl) ?_
      refine Unw.seq ?_
      refine Go.r1 c39 rfl rfl (st1 := mk [(0, .v false [.own 0 0 0]), (1, iv (w64 ((w64 (k_1_l2 + 1)) + 1))), (5, iv i_5_l2)] [(0, some ⟨0, 0, true, false, false, false, [⟨.sh, 0, 0, .row 3 (List.map e_S_Cutting (((a_o0_l2.set i_5_l2.toNat (⟨x15, x16.Length, x16.Hardness⟩ : S_Cutting)).set i_5_l2.toNat (⟨x23.Name, (w64 (k_1_l2 + 1)), x23.Hardness⟩ : S_Cutting)).set i_5_l2.toNat (⟨x30.Name, x30.Length, (w64 ((w64 (k_1_l2 + 1)) + 1))⟩ : S_Cutting)))⟩]⟩)]) (by kernel_rfl) (sq z39 (oMv rfl rfl) <| sq z39 (oBi rfl rfl rfl rfl) <| sq z39 (oAsI rfl rfl) <| nl) ?_
      refine Unw.blk ?_
      refine Unw.seq ?_
      refine Go.r0 c39 rfl rfl (sq z39 (oMv rfl rfl) <| sq z39 (oBi rfl rfl rfl rfl) <| sq z39 (oAsI rfl rfl) <| nl) ?_
      refine Unw.nil ?_
      cases h
      exact ⟨rfl, (by kernel_rfl)⟩
    · rw [if_neg hc3] at h
      refine Go.condF rfl (byF iDec hc3) ?_
      refine Go.exit ?_
      refine Unw.seqx ?_
      refine Unw.nil ?_
      cases h
      exact ⟨rfl, (by kernel_rfl)⟩
  · rintro ⟨e, st⟩ hp
    obtain ⟨k_1_e0_2, a_o0_e0_2⟩ := o
    dsimp only at h
    obtain ⟨he, hst⟩ := hp
    obtain rfl : e = .exit 0 := he
    refine Unw.blkx ?_
    refine Unw.seq ?_
    refine Go.seq ?_
    refine Go.r1 c39 rfl rfl hst (sq z39 (oMv rfl rfl) <| sq z39 (oAsI rfl rfl) <| nl) ?_
    refine Unw.seq ?_
    refine Go.ret (Unw.ret ?_)
    cases h
    exact Fin_ret (fin_of rfl rF39 rfl (by kernel_rfl))
theorem L_laws_markInt64S {a_0 : (List Int)} {k_1 : Int} {r : (Int × (List Int))} (h : laws_markInt64S a_0 k_1 = some r) : FL Try.prog cfg 30 [.ow 1 (List.map eI a_0), .im 2 false [.sc (.int .i64 k_1)]] = some ([(false, [.im 0 (.sc (.int .i64 r.1))])], [.ow 1 (List.map eI r.2)]) := by
  unfold laws_markInt64S at h
  refine FL_goS (A := [(0, .v false [.own 0 0 0]), (1, .v false [.im 2 (.sc (.int .i64 k_1))])]) (B := [(0, some ⟨0, 0, true, false, false, false, [⟨.sh, 0, 0, .row 1 (List.map eI a_0)⟩]⟩), (1, none)]) (nt := 19) rfl rfl Try.func30 rfl rfl rfl rfl ?_
  refine Go.seq ?_
  refine Go.r0 c30 rfl rfl (sq z30 (oAsI rfl rfl) <| nl) ?_
  refine Unw.seq ?_
  refine Go.seq ?_
  refine Go.seq ?_
  refine Go.r0 c30 rfl rfl (sq z30 (oAsI rfl rfl) <| nl) ?_
  refine Unw.seq ?_
  refine Go.block ?_
  obtain ⟨o, hl, h⟩ := bs h
  refine Go.lp c30 rfl _ (fun (s : (Int × Int × (List Int))) => match s with | (k_1_l2, i_5_l2, a_o0_l2) => mk [(0, .v false [.own 0 0 0]), (1, iv k_1_l2), (5, iv i_5_l2)] [(0, some ⟨0, 0, true, false, false, false, [⟨.sh, 0, 0, .row 1 (List.map eI a_o0_l2)⟩]⟩)]) (fun (o : (Int × (List Int))) (p : Ex × St) => match o with | (k_1_e0_2, a_o0_e0_2) => p.1 = .exit 0 ∧ p.2.norm ([1], [0]) = mk [(1, iv k_1_e0_2)] [(0, some ⟨0, 0, true, false, false, false, [⟨.sh, 0, 0, .row 1 (List.map eI a_o0_e0_2)⟩]⟩)]) hl (by kernel_rfl) ?_ ?_ ?_
  · intro o p hp e
    obtain ⟨k_1_e0_2, a_o0_e0_2⟩ := o
    exact nomatch (hp.1.symm.trans e)
  · rintro ⟨k_1_l2, i_5_l2, a_o0_l2⟩ o h
    unfold laws_markInt64S_l2 at h
    dsimp only at h
    refine Go.seq ?_
    refine Go.seq ?_
    refine Go.r0 c30 rfl rfl (sq z30 (oMv rfl rfl) <| sq z30 (oMv rfl rfl) <| sq z30 (oLnO rfl rfl uF27 rfl rfl rfl (fun e => nomatch e)) <| sq z30 (oBi rfl rfl rfl rfl) <| nl) ?_
    refine Unw.seq ?_
    by_cases hc3 : i_5_l2 < (a_o0_l2.length : Int)
    · rw [if_pos hc3] at h
      refine Go.condT rfl (iDec.2 hc3) ?_
      refine Go.skip ?_
      refine Unw.seq ?_
      refine Go.seq ?_
      refine Go.block ?_
      refine Go.seq ?_
      obtain ⟨x15, hx15, h⟩ := bs h
      refine Go.r0 c30 rfl rfl (sq z30 (oMv rfl rfl) <| sq z30 (oMv rfl rfl) <| sq z30 (oMv rfl rfl) <| sq z30 (oIAO rfl hx15 sF27 rfl rfl rfl rfl) <| sq z30 (oStE (v' := k_1_l2) tF2 rfl rfl rfl (fxI fx0) rfl rfl (rd_get hx15) rfl) <| nl) ?_
      refine Unw.seq ?_
      refine Go.r1 c30 rfl rfl (st1 := mk [(0, .v false [.own 0 0 0]), (1, iv k_1_l2), (5, iv i_5_l2)] [(0, some ⟨0, 0, true, false, false, false, [⟨.sh, 0, 0, .row 1 (List.map eI (a_o0_l2.set i_5_l2.toNat k_1_l2))⟩]⟩)]) (by kernel_rfl) (sq z30 (oMv rfl rfl) <| sq z30 (oBi rfl rfl rfl rfl) <| sq z30 (oAsI rfl rfl) <| nl) ?_
      refine Unw.blk ?_
      refine Unw.seq ?_
      refine Go.r0 c30 rfl rfl (sq z30 (oMv rfl rfl) <| sq z30 (oBi rfl rfl rfl rfl) <| sq z30 (oAsI rfl rfl) <| nl) ?_
      refine Unw.nil ?_
      cases h
      exact ⟨rfl, (by kernel_rfl)⟩
    · rw [if_neg hc3] at h
      refine Go.condF rfl (byF iDec hc3) ?_
      refine Go.exit ?_
      refine Unw.seqx ?_
      refine Unw.nil ?_
      cases h
      exact ⟨rfl, (by kernel_rfl)⟩
  · rintro ⟨e, st⟩ hp
    obtain ⟨k_1_e0_2, a_o0_e0_2⟩ := o
    dsimp only at h
    obtain ⟨he, hst⟩ := hp
    obtain rfl : e = .exit 0 := he
    refine Unw.blkx ?_
    refine Unw.seq ?_
    refine Go.seq ?_
    refine Go.r1 c30 rfl rfl hst (sq z30 (oMv rfl rfl) <| sq z30 (oAsI rfl rfl) <| nl) ?_
    refine Unw.seq ?_
    refine Go.ret (Unw.ret ?_)
    cases h
    exact Fin_ret (fin_of rfl rF30 rfl (by kernel_rfl))
theorem L_laws_heldInt64S {a_0 : (List Int)} {k_1 : Int} {r : Int} (h : laws_heldInt64S a_0 k_1 = some r) : FL Try.prog cfg 31 [.im 2 false [.row 1 (List.map eI a_0)], .im 2 false [.sc (.int .i64 k_1)]] = some ([(false, [.im 0 (.sc (.int .i64 r))])], []) := by
  unfold laws_heldInt64S at h
  refine FL_goS (A := [(0, .v false [.im 2 (.row 1 (List.map eI a_0))]), (1, .v false [.im 2 (.sc (.int .i64 k_1))])]) (B := [(0, none), (1, none)]) (nt := 21) rfl rfl Try.func31 rfl rfl rfl rfl ?_
  refine Go.seq ?_
  refine Go.r0 c31 rfl rfl (sq z31 (oAsI rfl rfl) <| nl) ?_
  refine Unw.seq ?_
  refine Go.seq ?_
  refine Go.seq ?_
  refine Go.r0 c31 rfl rfl (sq z31 (oAsI rfl rfl) <| nl) ?_
  refine Unw.seq ?_
  refine Go.block ?_
  obtain ⟨o, hl, h⟩ := bs h
  refine Go.lp c31 rfl _ (fun (s : (Int × Int)) => match s with | (k_1_l2, i_5_l2) => mk [(0, .v false [.im 2 (.row 1 (List.map eI a_0))]), (1, iv k_1_l2), (5, iv i_5_l2)] []) (fun (o : (Int ⊕ Int)) (p : Ex × St) => match o with | (.inl k_1_e0_2) => p.1 = .exit 0 ∧ p.2.norm ([1], []) = mk [(1, iv k_1_e0_2)] [] | (.inr r2) => p.1 = .ret ∧ fin Try.prog cfg 31 Try.f31 [.im 2 false [.row 1 (List.map eI a_0)], .im 2 false [.sc (.int .i64 k_1)]] p.2 = some ([(false, [.im 0 (.sc (.int .i64 r2))])], [])) hl (by kernel_rfl) ?_ ?_ ?_
  · intro o p hp e
    rcases o with k_1_e0_2 | r2 <;> exact nomatch (hp.1.symm.trans e)
  · rintro ⟨k_1_l2, i_5_l2⟩ o h
    unfold laws_heldInt64S_l2 at h
    dsimp only at h
    refine Go.seq ?_
    refine Go.seq ?_
    refine Go.r0 c31 rfl rfl (sq z31 (oMv rfl rfl) <| sq z31 (oMv rfl rfl) <| sq z31 (oLnI rfl rfl uF27 rfl) <| sq z31 (oBi rfl rfl rfl rfl) <| nl) ?_
    refine Unw.seq ?_
    by_cases hc5 : i_5_l2 < (a_0.length : Int)
    · rw [if_pos hc5] at h
      refine Go.condT rfl (iDec.2 hc5) ?_
      refine Go.skip ?_
      refine Unw.seq ?_
      refine Go.seq ?_
      refine Go.block ?_
      refine Go.seq ?_
      refine Go.seq ?_
      obtain ⟨x14, hx14, h⟩ := bs h
      refine Go.r0 c31 rfl rfl (sq z31 (oMv rfl rfl) <| sq z31 (oMv rfl rfl) <| sq z31 (oIAI rfl hx14 sF27 rfl rfl) <| sq z31 (oLd (cs := [.im 2 _]) rfl tF2 rfl rfl) <| sq z31 (oMv rfl rfl) <| sq z31 (oBi rfl rfl rfl rfl) <| nl) ?_
      refine Unw.seq ?_
      by_cases hc6 : x14 ≠ k_1_l2
      · rw [if_pos hc6] at h
        refine Go.condT rfl (iNe.2 hc6) ?_
        refine Go.seq ?_
        refine Go.r0 c31 rfl rfl (sq z31 (oAsI rfl rfl) <| nl) ?_
        refine Unw.seq ?_
        refine Go.ret (Unw.ret ?_)
        cases h
        exact ⟨rfl, (fin_of rfl rF31 rfl (by kernel_rfl))⟩
      · rw [if_neg hc6] at h
        refine Go.condF rfl (byF iNe hc6) ?_
        refine Go.skip ?_
        refine Unw.seq ?_
        refine Go.r0 c31 rfl rfl (sq z31 (oMv rfl rfl) <| sq z31 (oBi rfl rfl rfl rfl) <| sq z31 (oAsI rfl rfl) <| nl) ?_
        refine Unw.blk ?_
        refine Unw.seq ?_
        refine Go.r0 c31 rfl rfl (sq z31 (oMv rfl rfl) <| sq z31 (oBi rfl rfl rfl rfl) <| sq z31 (oAsI rfl rfl) <| nl) ?_
        refine Unw.nil ?_
        cases h
        exact ⟨rfl, (by kernel_rfl)⟩
    · rw [if_neg hc5] at h
      refine Go.condF rfl (byF iDec hc5) ?_
      refine Go.exit ?_
      refine Unw.seqx ?_
      refine Unw.nil ?_
      cases h
      exact ⟨rfl, (by kernel_rfl)⟩
  · rintro ⟨e, st⟩ hp
    rcases o with k_1_e0_2 | r2
    · dsimp only at h
      obtain ⟨he, hst⟩ := hp
      obtain rfl : e = .exit 0 := he
      refine Unw.blkx ?_
      refine Unw.seq ?_
      refine Go.seq ?_
      refine Go.r1 c31 rfl rfl hst (sq z31 (oMv rfl rfl) <| sq z31 (oAsI rfl rfl) <| nl) ?_
      refine Unw.seq ?_
      refine Go.ret (Unw.ret ?_)
      cases h
      exact Fin_ret (fin_of rfl rF31 rfl (by kernel_rfl))
    · dsimp only at h
      obtain ⟨he, hfin⟩ := hp
      obtain rfl : e = .ret := he
      cases h
      exact Unw.ret (Fin_ret hfin)
theorem L_laws_FnExactFewestBlades {aB_0 : S_Blade} {aList_1 : (List S_Cutting)} {aBudget_2 : Int} {r : Bool} (h : laws_FnExactFewestBlades aB_0 aList_1 aBudget_2 = some r) : FL Try.prog cfg 5 [.im 2 true [.sc (.string aB_0.Name), .sc (.int .i64 aB_0.Life), .sc (.int .i64 aB_0.Price), .sc (.int .i64 aB_0.Speed)], .im 2 false [.row 3 (List.map e_S_Cutting aList_1)], .im 2 false [.sc (.int .i64 aBudget_2)]] = some ([(false, [.im 0 (.sc (.bool r))])], []) := by
  unfold laws_FnExactFewestBlades at h
  refine FL_goS (A := [(0, .v true [.im 2 (.sc (.string aB_0.Name)), .im 2 (.sc (.int .i64 aB_0.Life)), .im 2 (.sc (.int .i64 aB_0.Price)), .im 2 (.sc (.int .i64 aB_0.Speed))]), (1, .v false [.im 2 (.row 3 (List.map e_S_Cutting aList_1))]), (2, .v false [.im 2 (.sc (.int .i64 aBudget_2))])]) (B := [(0, none), (1, none), (2, none)]) (nt := 135) rfl rfl Try.func5 rfl rfl rfl rfl ?_
  refine Go.seq ?_
  refine Go.r0 c5 rfl rfl (sq z5 (oBx rfl tF48 rfl (tkI (tkI (tkI (tkI tk0))))) <| sq z5 (oAsI rfl rfl) <| nl) ?_
  refine Unw.seq ?_
  refine Go.seq ?_
  refine Go.r0 c5 rfl rfl (sq z5 (oAsI rfl rfl) <| nl) ?_
  refine Unw.seq ?_
  refine Go.seq ?_
  obtain ⟨x23, hx23, h⟩ := bs h
  refine Go.r0 c5 rfl rfl (sq z5 (oLd (cs := [.im 0 _, .im 0 _, .im 0 _, .im 0 _]) rfl tF48 rfl rfl) <| sq z5 (oMv rfl rfl) <| sq z5 (oCa (xs := [.v true [.im 0 _, .im 0 _, .im 0 _, .im 0 _], .v false [.im 0 _]]) (vs := [(false, [.im 0 _])]) (v := .v false [.im 0 _]) (L_laws_szBlade hx23) (.inl rfl) rfl kF32_48_3 rfl (ppC rfl (ppC rfl pp0)) rfl rfl pb0 rfl rfl rfl) <| sq z5 (oAsI rfl rfl) <| nl) ?_
  refine Unw.seq ?_
  refine Go.seq ?_
  refine Go.seq ?_
  refine Go.r0 c5 rfl rfl (sq z5 (oMv rfl rfl) <| sq z5 (oBi rfl rfl rfl rfl) <| nl) ?_
  refine Unw.seq ?_
  by_cases hc1 : x23 < 0
  · rw [if_pos hc1] at h
    refine Go.condT rfl (iDec.2 hc1) ?_
    refine Go.seq ?_
    refine Go.r0 c5 rfl rfl (sq z5 (oAsI rfl rfl) <| nl) ?_
    refine Unw.seq ?_
    refine Go.ret (Unw.ret ?_)
    cases h
    exact Fin_ret (fin_of rfl rF5 rfl (by kernel_rfl))
  · rw [if_neg hc1] at h
    refine Go.condF rfl (byF iDec hc1) ?_
    refine Go.skip ?_
    refine Unw.seq ?_
    refine Go.seq ?_
    obtain ⟨x28, hx28, h⟩ := bs h
    refine Go.r0 c5 rfl rfl (sq z5 (oMv rfl rfl) <| sq z5 (oMv rfl rfl) <| sq z5 (oCa (xs := [.v false [.im 2 _], .v false [.im 0 _]]) (vs := [(false, [.im 0 _])]) (v := .v false [.im 0 _]) (L_laws_szCuttingS hx28) (.inl rfl) rfl kF33_49_3 rfl (ppC rfl (ppC rfl pp0)) rfl rfl pb0 rfl rfl rfl) <| sq z5 (oAsI rfl rfl) <| nl) ?_
    refine Unw.seq ?_
    refine Go.seq ?_
    refine Go.seq ?_
    refine Go.r0 c5 rfl rfl (sq z5 (oMv rfl rfl) <| sq z5 (oBi rfl rfl rfl rfl) <| nl) ?_
    refine Unw.seq ?_
    by_cases hc2 : x28 < 0
    · rw [if_pos hc2] at h
      refine Go.condT rfl (iDec.2 hc2) ?_
      refine Go.seq ?_
      refine Go.r0 c5 rfl rfl (sq z5 (oAsI rfl rfl) <| nl) ?_
      refine Unw.seq ?_
      refine Go.ret (Unw.ret ?_)
      cases h
      exact Fin_ret (fin_of rfl rF5 rfl (by kernel_rfl))
    · rw [if_neg hc2] at h
      refine Go.condF rfl (byF iDec hc2) ?_
      refine Go.skip ?_
      refine Unw.seq ?_
      refine Go.seq ?_
      obtain ⟨x33, hx33, h⟩ := bs h
      obtain ⟨x35, hx35, h⟩ := bs h
      obtain ⟨x37, hx37, h⟩ := bs h
      refine Go.r0 c5 rfl rfl (sq z5 (oLd (cs := [.im 0 _, .im 0 _, .im 0 _, .im 0 _]) rfl tF48 rfl rfl) <| sq z5 (oCa (xs := [.v true [.im 0 _, .im 0 _, .im 0 _, .im 0 _]]) (vs := [(true, [.im 0 _, .im 0 _, .im 0 _, .im 0 _])]) (v := .v true [.im 0 _, .im 0 _, .im 0 _, .im 0 _]) (L_laws_toBlade hx33) (.inl rfl) rfl kF35_48 rfl (ppC rfl pp0) rfl rfl pb0 rfl rfl rfl) <| sq z5 (oMv rfl rfl) <| sq z5 (oCr (xs := [.v false [.im 2 _]]) (vs := [(false, [.own 35 0 0])]) (v := .v false [.own 35 0 0]) (c := ⟨.sh, 0, _⟩) (cs := []) (L_laws_toCuttingS hx35) (.inl rfl) rfl kF36_49 rfl (ppC rfl pp0) rfl rfl pb0 rfl rfl rfl) <| sq z5 (oMv rfl rfl) <| sq z5 (oCr (xs := [.v true [.im 0 _, .im 0 _, .im 0 _, .im 0 _], .v false [.own 35 0 0], .v false [.im 2 _]]) (vs := [(false, [.own 37 0 0]), (false, [.im 0 _]), (false, [.im 0 _])]) (v := .tup [(false, [.own 37 0 0]), (false, [.im 0 _]), (false, [.im 0 _])]) (c := ⟨.sh, 0, _⟩) (cs := []) (L_spec_FewestBlades hx37) (.inl rfl) rfl kF34_54_56_2 rfl (ppC rfl (ppC rfl (ppC rfl pp0))) rfl rfl pb0 rfl rfl rfl) <| sq z5 (oMvT rfl rfl) <| sq z5 (oEx rfl rfl rfl) <| sq z5 (oEx rfl rfl rfl) <| sq z5 (oEx rfl rfl rfl) <| sq z5 (oAsO rfl rfl rfl rfl rfl) <| sq z5 (oAsI rfl rfl) <| sq z5 (oAsI rfl rfl) <| nl) ?_
      refine Unw.seq ?_
      refine Go.seq ?_
      obtain ⟨x42, hx42, h⟩ := bs h
      refine Go.r0 c5 rfl rfl (sq z5 (oMv rfl rfl) <| sq z5 (oCr (xs := [.v false [.im 2 _]]) (vs := [(false, [.own 42 0 0])]) (v := .v false [.own 42 0 0]) (c := ⟨.sh, 0, _⟩) (cs := []) (L_laws_toCuttingS hx42) (.inl rfl) rfl kF36_49 rfl (ppC rfl pp0) rfl rfl pb0 rfl rfl rfl) <| sq z5 (oAsO rfl rfl rfl rfl rfl) <| nl) ?_
      refine Unw.seq ?_
      refine Go.seq ?_
      obtain ⟨x45, hx45, h⟩ := bs h
      obtain ⟨x48, hx48, h⟩ := bs h
      refine Go.r0 c5 rfl rfl (sq z5 (oLd (cs := [.im 0 _, .im 0 _, .im 0 _, .im 0 _]) rfl tF48 rfl rfl) <| sq z5 (oCa (xs := [.v true [.im 0 _, .im 0 _, .im 0 _, .im 0 _]]) (vs := [(true, [.im 0 _, .im 0 _, .im 0 _, .im 0 _])]) (v := .v true [.im 0 _, .im 0 _, .im 0 _, .im 0 _]) (L_laws_toBlade hx45) (.inl rfl) rfl kF35_48 rfl (ppC rfl pp0) rfl rfl pb0 rfl rfl rfl) <| sq z5 (oMv rfl rfl) <| sq z5 (oMv rfl rfl) <| sq z5 (oCr (xs := [.v true [.im 0 _, .im 0 _, .im 0 _, .im 0 _], .v false [.own 11 0 0], .v false [.im 2 _]]) (vs := [(false, [.own 48 0 0]), (false, [.im 0 _]), (false, [.im 0 _])]) (v := .tup [(false, [.own 48 0 0]), (false, [.im 0 _]), (false, [.im 0 _])]) (c := ⟨.sh, 0, _⟩) (cs := []) (L_impl_FewestBlades hx48) (.inl rfl) rfl kF37_54_56_2 rfl (ppC rfl (ppC rfl (ppC rfl pp0))) rfl rfl pb0 rfl rfl rfl) <| sq z5 (oMvT rfl rfl) <| sq z5 (oEx rfl rfl rfl) <| sq z5 (oEx rfl rfl rfl) <| sq z5 (oEx rfl rfl rfl) <| sq z5 (oAsO rfl rfl rfl rfl rfl) <| sq z5 (oAsI rfl rfl) <| sq z5 (oAsI rfl rfl) <| nl) ?_
      refine Unw.seq ?_
      refine Go.seq ?_
      refine Go.seq ?_
      obtain ⟨x54, hx54, h⟩ := bs h
      refine Go.rX c5 rfl rfl rfl (mk [(1, .v false [.im 2 (.row 3 (List.map e_S_Cutting aList_1))]), (2, iv aBudget_2), (3, .v false [.mp 3 0 0]), (8, .v false [.own 8 0 0]), (9, iv x37.2.1), (10, iv x37.2.2), (11, .v false [.own 11 0 0]), (12, .v false [.own 12 0 0]), (13, iv x48.2.1), (14, iv x48.2.2), (65, bv ((!x54) || ((x48.2.1 != x37.2.1) || (x48.2.2 != x37.2.2))))] [(3, some ⟨0, 0, false, true, false, true, [⟨.imm, 0, 0, .sc (.string aB_0.Name)⟩, ⟨.imm, 0, 0, .sc (.int .i64 aB_0.Life)⟩, ⟨.imm, 0, 0, .sc (.int .i64 aB_0.Price)⟩, ⟨.imm, 0, 0, .sc (.int .i64 aB_0.Speed)⟩]⟩), (8, some ⟨0, 0, false, false, false, false, [⟨.sh, 0, 0, .row 1 (List.map eI x37.1)⟩]⟩), (11, some ⟨0, 0, false, false, false, false, [⟨.sh, 0, 0, .row 3 (List.map e_S_Cutting x42)⟩]⟩), (12, some ⟨0, 0, false, false, false, false, [⟨.sh, 0, 0, .row 1 (List.map eI x48.1)⟩]⟩)]) ?_ ?_
      · by_cases hc3 : x54 = true
        · by_cases hc4 : x48.2.1 ≠ x37.2.1
          · exact ⟨_, sq z5 (oMv rfl rfl) <| sq z5 (oMv rfl rfl) <| sq z5 (oCa (xs := [.v false [.own 12 0 0], .v false [.own 8 0 0]]) (vs := [(false, [.im 0 _])]) (v := .v false [.im 0 _]) (L_laws_eqInt64S hx54) (.inl rfl) rfl kF27_27_27 rfl (ppC rfl (ppC rfl pp0)) rfl rfl pb0 rfl rfl rfl) <| sq z5 (oUn rfl rfl rfl) <| sq z5 (oMv rfl rfl) <| sgT z5 rfl rfl (nF (Iff.rfl.2 hc3)) (oMv rfl rfl) <| sgT z5 rfl rfl (nF (Iff.rfl.2 hc3)) (oMv rfl rfl) <| sgT z5 rfl rfl (nF (Iff.rfl.2 hc3)) (oBi rfl rfl rfl rfl) <| sq z5 (oPkF rfl rfl (nF (Iff.rfl.2 hc3)) rfl) <| sq z5 (oMv rfl rfl) <| sgF rfl rfl (iNe.2 hc4) rfl <| sgF rfl rfl (iNe.2 hc4) rfl <| sgF rfl rfl (iNe.2 hc4) rfl <| sq z5 (oPkT rfl rfl (iNe.2 hc4) rfl) <| nl, (Eq.trans (b := (fun t_65_m11 : Bool => mk [(1, .v false [.im 2 (.row 3 (List.map e_S_Cutting aList_1))]), (2, iv aBudget_2), (3, .v false [.mp 3 0 0]), (8, .v false [.own 8 0 0]), (9, iv x37.2.1), (10, iv x37.2.2), (11, .v false [.own 11 0 0]), (12, .v false [.own 12 0 0]), (13, iv x48.2.1), (14, iv x48.2.2), (65, bv t_65_m11)] [(3, some ⟨0, 0, false, true, false, true, [⟨.imm, 0, 0, .sc (.string aB_0.Name)⟩, ⟨.imm, 0, 0, .sc (.int .i64 aB_0.Life)⟩, ⟨.imm, 0, 0, .sc (.int .i64 aB_0.Price)⟩, ⟨.imm, 0, 0, .sc (.int .i64 aB_0.Speed)⟩]⟩), (8, some ⟨0, 0, false, false, false, false, [⟨.sh, 0, 0, .row 1 (List.map eI x37.1)⟩]⟩), (11, some ⟨0, 0, false, false, false, false, [⟨.sh, 0, 0, .row 3 (List.map e_S_Cutting x42)⟩]⟩), (12, some ⟨0, 0, false, false, false, false, [⟨.sh, 0, 0, .row 1 (List.map eI x48.1)⟩]⟩)]) true) (by kernel_rfl) (congrArg (fun t_65_m11 : Bool => mk [(1, .v false [.im 2 (.row 3 (List.map e_S_Cutting aList_1))]), (2, iv aBudget_2), (3, .v false [.mp 3 0 0]), (8, .v false [.own 8 0 0]), (9, iv x37.2.1), (10, iv x37.2.2), (11, .v false [.own 11 0 0]), (12, .v false [.own 12 0 0]), (13, iv x48.2.1), (14, iv x48.2.2), (65, bv t_65_m11)] [(3, some ⟨0, 0, false, true, false, true, [⟨.imm, 0, 0, .sc (.string aB_0.Name)⟩, ⟨.imm, 0, 0, .sc (.int .i64 aB_0.Life)⟩, ⟨.imm, 0, 0, .sc (.int .i64 aB_0.Price)⟩, ⟨.imm, 0, 0, .sc (.int .i64 aB_0.Speed)⟩]⟩), (8, some ⟨0, 0, false, false, false, false, [⟨.sh, 0, 0, .row 1 (List.map eI x37.1)⟩]⟩), (11, some ⟨0, 0, false, false, false, false, [⟨.sh, 0, 0, .row 3 (List.map e_S_Cutting x42)⟩]⟩), (12, some ⟨0, 0, false, false, false, false, [⟨.sh, 0, 0, .row 1 (List.map eI x48.1)⟩]⟩)]) (by first | rfl | simp [(Iff.rfl.2 hc3), (iNe.2 hc4)])))⟩
          · exact ⟨_, sq z5 (oMv rfl rfl) <| sq z5 (oMv rfl rfl) <| sq z5 (oCa (xs := [.v false [.own 12 0 0], .v false [.own 8 0 0]]) (vs := [(false, [.im 0 _])]) (v := .v false [.im 0 _]) (L_laws_eqInt64S hx54) (.inl rfl) rfl kF27_27_27 rfl (ppC rfl (ppC rfl pp0)) rfl rfl pb0 rfl rfl rfl) <| sq z5 (oUn rfl rfl rfl) <| sq z5 (oMv rfl rfl) <| sgT z5 rfl rfl (nF (Iff.rfl.2 hc3)) (oMv rfl rfl) <| sgT z5 rfl rfl (nF (Iff.rfl.2 hc3)) (oMv rfl rfl) <| sgT z5 rfl rfl (nF (Iff.rfl.2 hc3)) (oBi rfl rfl rfl rfl) <| sq z5 (oPkF rfl rfl (nF (Iff.rfl.2 hc3)) rfl) <| sq z5 (oMv rfl rfl) <| sgT z5 rfl rfl (byF iNe hc4) (oMv rfl rfl) <| sgT z5 rfl rfl (byF iNe hc4) (oMv rfl rfl) <| sgT z5 rfl rfl (byF iNe hc4) (oBi rfl rfl rfl rfl) <| sq z5 (oPkF rfl rfl (byF iNe hc4) rfl) <| nl, (Eq.trans (b := (fun t_65_m11 : Bool => mk [(1, .v false [.im 2 (.row 3 (List.map e_S_Cutting aList_1))]), (2, iv aBudget_2), (3, .v false [.mp 3 0 0]), (8, .v false [.own 8 0 0]), (9, iv x37.2.1), (10, iv x37.2.2), (11, .v false [.own 11 0 0]), (12, .v false [.own 12 0 0]), (13, iv x48.2.1), (14, iv x48.2.2), (65, bv t_65_m11)] [(3, some ⟨0, 0, false, true, false, true, [⟨.imm, 0, 0, .sc (.string aB_0.Name)⟩, ⟨.imm, 0, 0, .sc (.int .i64 aB_0.Life)⟩, ⟨.imm, 0, 0, .sc (.int .i64 aB_0.Price)⟩, ⟨.imm, 0, 0, .sc (.int .i64 aB_0.Speed)⟩]⟩), (8, some ⟨0, 0, false, false, false, false, [⟨.sh, 0, 0, .row 1 (List.map eI x37.1)⟩]⟩), (11, some ⟨0, 0, false, false, false, false, [⟨.sh, 0, 0, .row 3 (List.map e_S_Cutting x42)⟩]⟩), (12, some ⟨0, 0, false, false, false, false, [⟨.sh, 0, 0, .row 1 (List.map eI x48.1)⟩]⟩)]) (x48.2.2 != x37.2.2)) (by kernel_rfl) (congrArg (fun t_65_m11 : Bool => mk [(1, .v false [.im 2 (.row 3 (List.map e_S_Cutting aList_1))]), (2, iv aBudget_2), (3, .v false [.mp 3 0 0]), (8, .v false [.own 8 0 0]), (9, iv x37.2.1), (10, iv x37.2.2), (11, .v false [.own 11 0 0]), (12, .v false [.own 12 0 0]), (13, iv x48.2.1), (14, iv x48.2.2), (65, bv t_65_m11)] [(3, some ⟨0, 0, false, true, false, true, [⟨.imm, 0, 0, .sc (.string aB_0.Name)⟩, ⟨.imm, 0, 0, .sc (.int .i64 aB_0.Life)⟩, ⟨.imm, 0, 0, .sc (.int .i64 aB_0.Price)⟩, ⟨.imm, 0, 0, .sc (.int .i64 aB_0.Speed)⟩]⟩), (8, some ⟨0, 0, false, false, false, false, [⟨.sh, 0, 0, .row 1 (List.map eI x37.1)⟩]⟩), (11, some ⟨0, 0, false, false, false, false, [⟨.sh, 0, 0, .row 3 (List.map e_S_Cutting x42)⟩]⟩), (12, some ⟨0, 0, false, false, false, false, [⟨.sh, 0, 0, .row 1 (List.map eI x48.1)⟩]⟩)]) (by first | rfl | simp [(Iff.rfl.2 hc3), (byF iNe hc4)])))⟩
        · exact ⟨_, sq z5 (oMv rfl rfl) <| sq z5 (oMv rfl rfl) <| sq z5 (oCa (xs := [.v false [.own 12 0 0], .v false [.own 8 0 0]]) (vs := [(false, [.im 0 _])]) (v := .v false [.im 0 _]) (L_laws_eqInt64S hx54) (.inl rfl) rfl kF27_27_27 rfl (ppC rfl (ppC rfl pp0)) rfl rfl pb0 rfl rfl rfl) <| sq z5 (oUn rfl rfl rfl) <| sq z5 (oMv rfl rfl) <| sgF rfl rfl (nT (byF Iff.rfl hc3)) rfl <| sgF rfl rfl (nT (byF Iff.rfl hc3)) rfl <| sgF rfl rfl (nT (byF Iff.rfl hc3)) rfl <| sq z5 (oPkT rfl rfl (nT (byF Iff.rfl hc3)) rfl) <| sq z5 (oMv rfl rfl) <| sgF rfl rfl rfl rfl <| sgF rfl rfl rfl rfl <| sgF rfl rfl rfl rfl <| sq z5 (oPkT rfl rfl rfl rfl) <| nl, (Eq.trans (b := (fun t_65_m11 : Bool => mk [(1, .v false [.im 2 (.row 3 (List.map e_S_Cutting aList_1))]), (2, iv aBudget_2), (3, .v false [.mp 3 0 0]), (8, .v false [.own 8 0 0]), (9, iv x37.2.1), (10, iv x37.2.2), (11, .v false [.own 11 0 0]), (12, .v false [.own 12 0 0]), (13, iv x48.2.1), (14, iv x48.2.2), (65, bv t_65_m11)] [(3, some ⟨0, 0, false, true, false, true, [⟨.imm, 0, 0, .sc (.string aB_0.Name)⟩, ⟨.imm, 0, 0, .sc (.int .i64 aB_0.Life)⟩, ⟨.imm, 0, 0, .sc (.int .i64 aB_0.Price)⟩, ⟨.imm, 0, 0, .sc (.int .i64 aB_0.Speed)⟩]⟩), (8, some ⟨0, 0, false, false, false, false, [⟨.sh, 0, 0, .row 1 (List.map eI x37.1)⟩]⟩), (11, some ⟨0, 0, false, false, false, false, [⟨.sh, 0, 0, .row 3 (List.map e_S_Cutting x42)⟩]⟩), (12, some ⟨0, 0, false, false, false, false, [⟨.sh, 0, 0, .row 1 (List.map eI x48.1)⟩]⟩)]) true) (by kernel_rfl) (congrArg (fun t_65_m11 : Bool => mk [(1, .v false [.im 2 (.row 3 (List.map e_S_Cutting aList_1))]), (2, iv aBudget_2), (3, .v false [.mp 3 0 0]), (8, .v false [.own 8 0 0]), (9, iv x37.2.1), (10, iv x37.2.2), (11, .v false [.own 11 0 0]), (12, .v false [.own 12 0 0]), (13, iv x48.2.1), (14, iv x48.2.2), (65, bv t_65_m11)] [(3, some ⟨0, 0, false, true, false, true, [⟨.imm, 0, 0, .sc (.string aB_0.Name)⟩, ⟨.imm, 0, 0, .sc (.int .i64 aB_0.Life)⟩, ⟨.imm, 0, 0, .sc (.int .i64 aB_0.Price)⟩, ⟨.imm, 0, 0, .sc (.int .i64 aB_0.Speed)⟩]⟩), (8, some ⟨0, 0, false, false, false, false, [⟨.sh, 0, 0, .row 1 (List.map eI x37.1)⟩]⟩), (11, some ⟨0, 0, false, false, false, false, [⟨.sh, 0, 0, .row 3 (List.map e_S_Cutting x42)⟩]⟩), (12, some ⟨0, 0, false, false, false, false, [⟨.sh, 0, 0, .row 1 (List.map eI x48.1)⟩]⟩)]) (by first | rfl | simp [(byF Iff.rfl hc3)])))⟩
      · refine Unw.seq ?_
        by_cases hc5 : (¬ (x54 = true) ∨ (x48.2.1 ≠ x37.2.1 ∨ x48.2.2 ≠ x37.2.2))
        · rw [if_pos hc5] at h
          refine Go.condT rfl ((iOr (iNot Iff.rfl) (iOr iNe iNe)).2 hc5) ?_
          refine Go.seq ?_
          refine Go.r0 c5 rfl rfl (sq z5 (oAsI rfl rfl) <| nl) ?_
          refine Unw.seq ?_
          refine Go.ret (Unw.ret ?_)
          cases h
          exact Fin_ret (fin_of rfl rF5 rfl (by kernel_rfl))
        · rw [if_neg hc5] at h
          refine Go.condF rfl (byF (iOr (iNot Iff.rfl) (iOr iNe iNe)) hc5) ?_
          refine Go.skip ?_
          refine Unw.seq ?_
          refine Go.seq ?_
          refine Go.seq ?_
          obtain ⟨x68, hx68, h⟩ := bs h
          obtain ⟨x69, hx69, h⟩ := bs h
          refine Go.r0 c5 rfl rfl (sq z5 (oMv rfl rfl) <| sq z5 (oMv rfl rfl) <| sq z5 (oCr (xs := [.v false [.im 2 _]]) (vs := [(false, [.own 68 0 0])]) (v := .v false [.own 68 0 0]) (c := ⟨.sh, 0, _⟩) (cs := []) (L_laws_toCuttingS hx68) (.inl rfl) rfl kF36_49 rfl (ppC rfl pp0) rfl rfl pb0 rfl rfl rfl) <| sq z5 (oCa (xs := [.v false [.own 11 0 0], .v false [.own 68 0 0]]) (vs := [(false, [.im 0 _])]) (v := .v false [.im 0 _]) (L_laws_eqCuttingS hx69) (.inl rfl) rfl kF38_56_56 rfl (ppC rfl (ppC rfl pp0)) rfl rfl pb0 rfl rfl rfl) <| sq z5 (oUn rfl rfl rfl) <| nl) ?_
          refine Unw.seq ?_
          by_cases hc6 : x69 = true
          · rw [if_pos hc6] at h
            refine Go.condF rfl (nF (Iff.rfl.2 hc6)) ?_
            refine Go.skip ?_
            refine Unw.seq ?_
            refine Go.seq ?_
            refine Go.r0 c5 rfl rfl (sq z5 (oAsI rfl rfl) <| nl) ?_
            refine Unw.seq ?_
            refine Go.seq ?_
            obtain ⟨x73, hx73, h⟩ := bs h
            refine Go.r0 c5 rfl rfl (sq z5 (oMv rfl rfl) <| sq z5 (oMv rfl rfl) <| sq z5 (oCa (xs := [.v false [.own 11 0 0], .v false [.im 0 _]]) (vs := [(false, [.im 0 _])]) (v := .v false [.im 0 _]) (L_laws_markCuttingS hx73) (.inl rfl) rfl kF39_56_3 rfl (ppC rfl (ppC rfl pp0)) rfl rfl (pbO rfl rfl rfl rfl pb0) rfl rfl rfl) <| sq z5 (oAsI rfl rfl) <| nl) ?_
            refine Unw.seq ?_
            refine Go.seq ?_
            refine Go.seq ?_
            obtain ⟨t_91_m17, hm18, h⟩ := bs h
            refine Go.rX c5 rfl rfl (st1 := mk [(1, .v false [.im 2 (.row 3 (List.map e_S_Cutting aList_1))]), (2, iv aBudget_2), (3, .v false [.mp 3 0 0]), (8, .v false [.own 8 0 0]), (9, iv x37.2.1), (10, iv x37.2.2), (12, .v false [.own 12 0 0]), (13, iv x48.2.1), (14, iv x48.2.2), (15, iv x73.1)] [(3, some ⟨0, 0, false, true, false, true, [⟨.imm, 0, 0, .sc (.string aB_0.Name)⟩, ⟨.imm, 0, 0, .sc (.int .i64 aB_0.Life)⟩, ⟨.imm, 0, 0, .sc (.int .i64 aB_0.Price)⟩, ⟨.imm, 0, 0, .sc (.int .i64 aB_0.Speed)⟩]⟩), (8, some ⟨0, 0, false, false, false, false, [⟨.sh, 0, 0, .row 1 (List.map eI x37.1)⟩]⟩), (12, some ⟨0, 0, false, false, false, false, [⟨.sh, 0, 0, .row 1 (List.map eI x48.1)⟩]⟩)]) (by kernel_rfl) (mk [(1, .v false [.im 2 (.row 3 (List.map e_S_Cutting aList_1))]), (2, iv aBudget_2), (3, .v false [.mp 3 0 0]), (8, .v false [.own 8 0 0]), (9, iv x37.2.1), (10, iv x37.2.2), (12, .v false [.own 12 0 0]), (91, bv t_91_m17)] [(3, some ⟨0, 0, false, true, false, true, [⟨.imm, 0, 0, .sc (.string aB_0.Name)⟩, ⟨.imm, 0, 0, .sc (.int .i64 aB_0.Life)⟩, ⟨.imm, 0, 0, .sc (.int .i64 aB_0.Price)⟩, ⟨.imm, 0, 0, .sc (.int .i64 aB_0.Speed)⟩]⟩), (8, some ⟨0, 0, false, false, false, false, [⟨.sh, 0, 0, .row 1 (List.map eI x37.1)⟩]⟩), (12, some ⟨0, 0, false, false, false, false, [⟨.sh, 0, 0, .row 1 (List.map eI x48.1)⟩]⟩)]) ?_ ?_
            · by_cases hc7 : x73.1 < 0
              · rw [if_pos hc7] at hm18
                cases hm18
                exact ⟨_, sq z5 (oMv rfl rfl) <| sq z5 (oBi rfl rfl rfl rfl) <| sq z5 (oMv rfl rfl) <| sgF rfl rfl (iDec.2 hc7) rfl <| sgF rfl rfl (iDec.2 hc7) rfl <| sgF rfl rfl (iDec.2 hc7) rfl <| sgF rfl rfl (iDec.2 hc7) rfl <| sq z5 (oPkT rfl rfl (iDec.2 hc7) rfl) <| sq z5 (oMv rfl rfl) <| sgF rfl rfl rfl rfl <| sgF rfl rfl rfl rfl <| sgF rfl rfl rfl rfl <| sq z5 (oPkT rfl rfl rfl rfl) <| sq z5 (oMv rfl rfl) <| sgF rfl rfl rfl rfl <| sgF rfl rfl rfl rfl <| sgF rfl rfl rfl rfl <| sq z5 (oPkT rfl rfl rfl rfl) <| nl, (by kernel_rfl)⟩
              · rw [if_neg hc7] at hm18
                obtain ⟨x79, hx79, hm18⟩ := bs hm18
                by_cases hc8 : x79 = true
                · rw [if_pos hc8] at hm18
                  by_cases hc9 : x48.2.1 ≠ x37.2.1
                  · rw [if_pos hc9] at hm18
                    cases hm18
                    exact ⟨_, sq z5 (oMv rfl rfl) <| sq z5 (oBi rfl rfl rfl rfl) <| sq z5 (oMv rfl rfl) <| sgT z5 rfl rfl (byF iDec hc7) (oMv rfl rfl) <| sgT z5 rfl rfl (byF iDec hc7) (oMv rfl rfl) <| sgT z5 rfl rfl (byF iDec hc7) (oCa (xs := [.v false [.own 12 0 0], .v false [.own 8 0 0]]) (vs := [(false, [.im 0 _])]) (v := .v false [.im 0 _]) (L_laws_eqInt64S hx79) (.inl rfl) rfl kF27_27_27 rfl (ppC rfl (ppC rfl pp0)) rfl rfl pb0 rfl rfl rfl) <| sgT z5 rfl rfl (byF iDec hc7) (oUn rfl rfl rfl) <| sq z5 (oPkF rfl rfl (byF iDec hc7) rfl) <| sq z5 (oMv rfl rfl) <| sgT z5 rfl rfl (nF (Iff.rfl.2 hc8)) (oMv rfl rfl) <| sgT z5 rfl rfl (nF (Iff.rfl.2 hc8)) (oMv rfl rfl) <| sgT z5 rfl rfl (nF (Iff.rfl.2 hc8)) (oBi rfl rfl rfl rfl) <| sq z5 (oPkF rfl rfl (nF (Iff.rfl.2 hc8)) rfl) <| sq z5 (oMv rfl rfl) <| sgF rfl rfl (iNe.2 hc9) rfl <| sgF rfl rfl (iNe.2 hc9) rfl <| sgF rfl rfl (iNe.2 hc9) rfl <| sq z5 (oPkT rfl rfl (iNe.2 hc9) rfl) <| nl, (by kernel_rfl)⟩
                  · rw [if_neg hc9] at hm18
                    cases hm18
                    exact ⟨_, sq z5 (oMv rfl rfl) <| sq z5 (oBi rfl rfl rfl rfl) <| sq z5 (oMv rfl rfl) <| sgT z5 rfl rfl (byF iDec hc7) (oMv rfl rfl) <| sgT z5 rfl rfl (byF iDec hc7) (oMv rfl rfl) <| sgT z5 rfl rfl (byF iDec hc7) (oCa (xs := [.v false [.own 12 0 0], .v false [.own 8 0 0]]) (vs := [(false, [.im 0 _])]) (v := .v false [.im 0 _]) (L_laws_eqInt64S hx79) (.inl rfl) rfl kF27_27_27 rfl (ppC rfl (ppC rfl pp0)) rfl rfl pb0 rfl rfl rfl) <| sgT z5 rfl rfl (byF iDec hc7) (oUn rfl rfl rfl) <| sq z5 (oPkF rfl rfl (byF iDec hc7) rfl) <| sq z5 (oMv rfl rfl) <| sgT z5 rfl rfl (nF (Iff.rfl.2 hc8)) (oMv rfl rfl) <| sgT z5 rfl rfl (nF (Iff.rfl.2 hc8)) (oMv rfl rfl) <| sgT z5 rfl rfl (nF (Iff.rfl.2 hc8)) (oBi rfl rfl rfl rfl) <| sq z5 (oPkF rfl rfl (nF (Iff.rfl.2 hc8)) rfl) <| sq z5 (oMv rfl rfl) <| sgT z5 rfl rfl (byF iNe hc9) (oMv rfl rfl) <| sgT z5 rfl rfl (byF iNe hc9) (oMv rfl rfl) <| sgT z5 rfl rfl (byF iNe hc9) (oBi rfl rfl rfl rfl) <| sq z5 (oPkF rfl rfl (byF iNe hc9) rfl) <| nl, (by kernel_rfl)⟩
                · rw [if_neg hc8] at hm18
                  cases hm18
                  exact ⟨_, sq z5 (oMv rfl rfl) <| sq z5 (oBi rfl rfl rfl rfl) <| sq z5 (oMv rfl rfl) <| sgT z5 rfl rfl (byF iDec hc7) (oMv rfl rfl) <| sgT z5 rfl rfl (byF iDec hc7) (oMv rfl rfl) <| sgT z5 rfl rfl (byF iDec hc7) (oCa (xs := [.v false [.own 12 0 0], .v false [.own 8 0 0]]) (vs := [(false, [.im 0 _])]) (v := .v false [.im 0 _]) (L_laws_eqInt64S hx79) (.inl rfl) rfl kF27_27_27 rfl (ppC rfl (ppC rfl pp0)) rfl rfl pb0 rfl rfl rfl) <| sgT z5 rfl rfl (byF iDec hc7) (oUn rfl rfl rfl) <| sq z5 (oPkF rfl rfl (byF iDec hc7) rfl) <| sq z5 (oMv rfl rfl) <| sgF rfl rfl (nT (byF Iff.rfl hc8)) rfl <| sgF rfl rfl (nT (byF Iff.rfl hc8)) rfl <| sgF rfl rfl (nT (byF Iff.rfl hc8)) rfl <| sq z5 (oPkT rfl rfl (nT (byF Iff.rfl hc8)) rfl) <| sq z5 (oMv rfl rfl) <| sgF rfl rfl rfl rfl <| sgF rfl rfl rfl rfl <| sgF rfl rfl rfl rfl <| sq z5 (oPkT rfl rfl rfl rfl) <| nl, (by kernel_rfl)⟩
            · refine Unw.seq ?_
              by_cases hc10 : t_91_m17 = true
              · rw [if_pos hc10] at h
                refine Go.condT rfl (Iff.rfl.2 hc10) ?_
                refine Go.seq ?_
                refine Go.r0 c5 rfl rfl (sq z5 (oAsI rfl rfl) <| nl) ?_
                refine Unw.seq ?_
                refine Go.ret (Unw.ret ?_)
                cases h
                exact Fin_ret (fin_of rfl rF5 rfl (by kernel_rfl))
              · rw [if_neg hc10] at h
                refine Go.condF rfl (byF Iff.rfl hc10) ?_
                refine Go.skip ?_
                refine Unw.seq ?_
                refine Go.seq ?_
                refine Go.r0 c5 rfl rfl (sq z5 (oAsI rfl rfl) <| nl) ?_
                refine Unw.seq ?_
                refine Go.seq ?_
                obtain ⟨x94, hx94, h⟩ := bs h
                refine Go.r0 c5 rfl rfl (sq z5 (oMv rfl rfl) <| sq z5 (oMv rfl rfl) <| sq z5 (oCa (xs := [.v false [.own 12 0 0], .v false [.im 0 _]]) (vs := [(false, [.im 0 _])]) (v := .v false [.im 0 _]) (L_laws_markInt64S hx94) (.inl rfl) rfl kF30_27_3 rfl (ppC rfl (ppC rfl pp0)) rfl rfl (pbO rfl rfl rfl rfl pb0) rfl rfl rfl) <| sq z5 (oAsI rfl rfl) <| nl) ?_
                refine Unw.seq ?_
                refine Go.seq ?_
                refine Go.r1 c5 rfl rfl (st1 := mk [(1, .v false [.im 2 (.row 3 (List.map e_S_Cutting aList_1))]), (2, iv aBudget_2), (3, .v false [.mp 3 0 0]), (8, .v false [.own 8 0 0]), (9, iv x37.2.1), (10, iv x37.2.2), (12, .v false [.own 12 0 0]), (16, iv x94.1)] [(3, some ⟨0, 0, false, true, false, true, [⟨.imm, 0, 0, .sc (.string aB_0.Name)⟩, ⟨.imm, 0, 0, .sc (.int .i64 aB_0.Life)⟩, ⟨.imm, 0, 0, .sc (.int .i64 aB_0.Price)⟩, ⟨.imm, 0, 0, .sc (.int .i64 aB_0.Speed)⟩]⟩), (8, some ⟨0, 0, false, false, false, false, [⟨.sh, 0, 0, .row 1 (List.map eI x37.1)⟩]⟩), (12, some ⟨0, 0, false, false, false, false, [⟨.sh, 0, 0, .row 1 (List.map eI x94.2)⟩]⟩)]) (by kernel_rfl) (sq z5 (oAsI rfl rfl) <| nl) ?_
                refine Unw.seq ?_
                refine Go.seq ?_
                obtain ⟨x97, hx97, h⟩ := bs h
                refine Go.r0 c5 rfl rfl (sq z5 (oMv rfl rfl) <| sq z5 (oMv rfl rfl) <| sq z5 (oCa (xs := [.v false [.own 12 0 0], .v false [.im 0 _]]) (vs := [(false, [.im 0 _])]) (v := .v false [.im 0 _]) (L_laws_heldInt64S hx97) (.inl rfl) rfl kF31_27_3 rfl (ppC rfl (ppC rfl pp0)) rfl rfl pb0 rfl rfl rfl) <| sq z5 (oAsI rfl rfl) <| nl) ?_
                refine Unw.seq ?_
                refine Go.seq ?_
                refine Go.seq ?_
                refine Go.r0 c5 rfl rfl (sq z5 (oMv rfl rfl) <| sq z5 (oBi rfl rfl rfl rfl) <| nl) ?_
                refine Unw.seq ?_
                by_cases hc11 : x97 < 0
                · rw [if_pos hc11] at h
                  refine Go.condT rfl (iDec.2 hc11) ?_
                  refine Go.seq ?_
                  refine Go.r0 c5 rfl rfl (sq z5 (oAsI rfl rfl) <| nl) ?_
                  refine Unw.seq ?_
                  refine Go.ret (Unw.ret ?_)
                  cases h
                  exact Fin_ret (fin_of rfl rF5 rfl (by kernel_rfl))
                · rw [if_neg hc11] at h
                  refine Go.condF rfl (byF iDec hc11) ?_
                  refine Go.skip ?_
                  refine Unw.seq ?_
                  refine Go.seq ?_
                  refine Go.seq ?_
                  refine Go.r0 c5 rfl rfl (sq z5 (oMv rfl rfl) <| sq z5 (oMv rfl rfl) <| sq z5 (oBi rfl rfl rfl rfl) <| nl) ?_
                  refine Unw.seq ?_
                  by_cases hc12 : x97 ≠ x94.1
                  · rw [if_pos hc12] at h
                    refine Go.condT rfl (iNe.2 hc12) ?_
                    refine Go.seq ?_
                    refine Go.r0 c5 rfl rfl (sq z5 (oAsI rfl rfl) <| nl) ?_
                    refine Unw.seq ?_
                    refine Go.ret (Unw.ret ?_)
                    cases h
                    exact Fin_ret (fin_of rfl rF5 rfl (by kernel_rfl))
                  · rw [if_neg hc12] at h
                    refine Go.condF rfl (byF iNe hc12) ?_
                    refine Go.skip ?_
                    refine Unw.seq ?_
                    refine Go.seq ?_
                    obtain ⟨x105, hx105, h⟩ := bs h
                    obtain ⟨x107, hx107, h⟩ := bs h
                    obtain ⟨x109, hx109, h⟩ := bs h
                    refine Go.r0 c5 rfl rfl (sq z5 (oLd (cs := [.im 0 _, .im 0 _, .im 0 _, .im 0 _]) rfl tF48 rfl rfl) <| sq z5 (oCa (xs := [.v true [.im 0 _, .im 0 _, .im 0 _, .im 0 _]]) (vs := [(true, [.im 0 _, .im 0 _, .im 0 _, .im 0 _])]) (v := .v true [.im 0 _, .im 0 _, .im 0 _, .im 0 _]) (L_laws_toBlade hx105) (.inl rfl) rfl kF35_48 rfl (ppC rfl pp0) rfl rfl pb0 rfl rfl rfl) <| sq z5 (oMv rfl rfl) <| sq z5 (oCr (xs := [.v false [.im 2 _]]) (vs := [(false, [.own 107 0 0])]) (v := .v false [.own 107 0 0]) (c := ⟨.sh, 0, _⟩) (cs := []) (L_laws_toCuttingS hx107) (.inl rfl) rfl kF36_49 rfl (ppC rfl pp0) rfl rfl pb0 rfl rfl rfl) <| sq z5 (oMv rfl rfl) <| sq z5 (oCr (xs := [.v true [.im 0 _, .im 0 _, .im 0 _, .im 0 _], .v false [.own 107 0 0], .v false [.im 0 _]]) (vs := [(false, [.own 109 0 0]), (false, [.im 0 _]), (false, [.im 0 _])]) (v := .tup [(false, [.own 109 0 0]), (false, [.im 0 _]), (false, [.im 0 _])]) (c := ⟨.sh, 0, _⟩) (cs := []) (L_impl_FewestBlades hx109) (.inl rfl) rfl kF37_54_56_2 rfl (ppC rfl (ppC rfl (ppC rfl pp0))) rfl rfl pb0 rfl rfl rfl) <| sq z5 (oMvT rfl rfl) <| sq z5 (oEx rfl rfl rfl) <| sq z5 (oEx rfl rfl rfl) <| sq z5 (oEx rfl rfl rfl) <| sq z5 (oAsO rfl rfl rfl rfl rfl) <| sq z5 (oAsI rfl rfl) <| sq z5 (oAsI rfl rfl) <| nl) ?_
                    refine Unw.seq ?_
                    refine Go.seq ?_
                    refine Go.seq ?_
                    obtain ⟨x115, hx115, h⟩ := bs h
                    refine Go.rX c5 rfl rfl rfl (mk [(12, .v false [.own 12 0 0]), (16, iv x94.1), (126, bv ((!x115) || ((x109.2.1 != x37.2.1) || (x109.2.2 != x37.2.2))))] [(12, some ⟨0, 0, false, false, false, false, [⟨.sh, 0, 0, .row 1 (List.map eI x94.2)⟩]⟩)]) ?_ ?_
                    · by_cases hc13 : x115 = true
                      · by_cases hc14 : x109.2.1 ≠ x37.2.1
                        · exact ⟨_, sq z5 (oMv rfl rfl) <| sq z5 (oMv rfl rfl) <| sq z5 (oCa (xs := [.v false [.own 18 0 0], .v false [.own 8 0 0]]) (vs := [(false, [.im 0 _])]) (v := .v false [.im 0 _]) (L_laws_eqInt64S hx115) (.inl rfl) rfl kF27_27_27 rfl (ppC rfl (ppC rfl pp0)) rfl rfl pb0 rfl rfl rfl) <| sq z5 (oUn rfl rfl rfl) <| sq z5 (oMv rfl rfl) <| sgT z5 rfl rfl (nF (Iff.rfl.2 hc13)) (oMv rfl rfl) <| sgT z5 rfl rfl (nF (Iff.rfl.2 hc13)) (oMv rfl rfl) <| sgT z5 rfl rfl (nF (Iff.rfl.2 hc13)) (oBi rfl rfl rfl rfl) <| sq z5 (oPkF rfl rfl (nF (Iff.rfl.2 hc13)) rfl) <| sq z5 (oMv rfl rfl) <| sgF rfl rfl (iNe.2 hc14) rfl <| sgF rfl rfl (iNe.2 hc14) rfl <| sgF rfl rfl (iNe.2 hc14) rfl <| sq z5 (oPkT rfl rfl (iNe.2 hc14) rfl) <| nl, (Eq.trans (b := (fun t_126_m28 : Bool => mk [(12, .v false [.own 12 0 0]), (16, iv x94.1), (126, bv t_126_m28)] [(12, some ⟨0, 0, false, false, false, false, [⟨.sh, 0, 0, .row 1 (List.map eI x94.2)⟩]⟩)]) true) (by kernel_rfl) (congrArg (fun t_126_m28 : Bool => mk [(12, .v false [.own 12 0 0]), (16, iv x94.1), (126, bv t_126_m28)] [(12, some ⟨0, 0, false, false, false, false, [⟨.sh, 0, 0, .row 1 (List.map eI x94.2)⟩]⟩)]) (by first | rfl | simp [(Iff.rfl.2 hc13), (iNe.2 hc14)])))⟩
                        · exact ⟨_, sq z5 (oMv rfl rfl) <| sq z5 (oMv rfl rfl) <| sq z5 (oCa (xs := [.v false [.own 18 0 0], .v false [.own 8 0 0]]) (vs := [(false, [.im 0 _])]) (v := .v false [.im 0 _]) (L_laws_eqInt64S hx115) (.inl rfl) rfl kF27_27_27 rfl (ppC rfl (ppC rfl pp0)) rfl rfl pb0 rfl rfl rfl) <| sq z5 (oUn rfl rfl rfl) <| sq z5 (oMv rfl rfl) <| sgT z5 rfl rfl (nF (Iff.rfl.2 hc13)) (oMv rfl rfl) <| sgT z5 rfl rfl (nF (Iff.rfl.2 hc13)) (oMv rfl rfl) <| sgT z5 rfl rfl (nF (Iff.rfl.2 hc13)) (oBi rfl rfl rfl rfl) <| sq z5 (oPkF rfl rfl (nF (Iff.rfl.2 hc13)) rfl) <| sq z5 (oMv rfl rfl) <| sgT z5 rfl rfl (byF iNe hc14) (oMv rfl rfl) <| sgT z5 rfl rfl (byF iNe hc14) (oMv rfl rfl) <| sgT z5 rfl rfl (byF iNe hc14) (oBi rfl rfl rfl rfl) <| sq z5 (oPkF rfl rfl (byF iNe hc14) rfl) <| nl, (Eq.trans (b := (fun t_126_m28 : Bool => mk [(12, .v false [.own 12 0 0]), (16, iv x94.1), (126, bv t_126_m28)] [(12, some ⟨0, 0, false, false, false, false, [⟨.sh, 0, 0, .row 1 (List.map eI x94.2)⟩]⟩)]) (x109.2.2 != x37.2.2)) (by kernel_rfl) (congrArg (fun t_126_m28 : Bool => mk [(12, .v false [.own 12 0 0]), (16, iv x94.1), (126, bv t_126_m28)] [(12, some ⟨0, 0, false, false, false, false, [⟨.sh, 0, 0, .row 1 (List.map eI x94.2)⟩]⟩)]) (by first | rfl | simp [(Iff.rfl.2 hc13), (byF iNe hc14)])))⟩
                      · exact ⟨_, sq z5 (oMv rfl rfl) <| sq z5 (oMv rfl rfl) <| sq z5 (oCa (xs := [.v false [.own 18 0 0], .v false [.own 8 0 0]]) (vs := [(false, [.im 0 _])]) (v := .v false [.im 0 _]) (L_laws_eqInt64S hx115) (.inl rfl) rfl kF27_27_27 rfl (ppC rfl (ppC rfl pp0)) rfl rfl pb0 rfl rfl rfl) <| sq z5 (oUn rfl rfl rfl) <| sq z5 (oMv rfl rfl) <| sgF rfl rfl (nT (byF Iff.rfl hc13)) rfl <| sgF rfl rfl (nT (byF Iff.rfl hc13)) rfl <| sgF rfl rfl (nT (byF Iff.rfl hc13)) rfl <| sq z5 (oPkT rfl rfl (nT (byF Iff.rfl hc13)) rfl) <| sq z5 (oMv rfl rfl) <| sgF rfl rfl rfl rfl <| sgF rfl rfl rfl rfl <| sgF rfl rfl rfl rfl <| sq z5 (oPkT rfl rfl rfl rfl) <| nl, (Eq.trans (b := (fun t_126_m28 : Bool => mk [(12, .v false [.own 12 0 0]), (16, iv x94.1), (126, bv t_126_m28)] [(12, some ⟨0, 0, false, false, false, false, [⟨.sh, 0, 0, .row 1 (List.map eI x94.2)⟩]⟩)]) true) (by kernel_rfl) (congrArg (fun t_126_m28 : Bool => mk [(12, .v false [.own 12 0 0]), (16, iv x94.1), (126, bv t_126_m28)] [(12, some ⟨0, 0, false, false, false, false, [⟨.sh, 0, 0, .row 1 (List.map eI x94.2)⟩]⟩)]) (by first | rfl | simp [(byF Iff.rfl hc13)])))⟩
                    · refine Unw.seq ?_
                      by_cases hc15 : (¬ (x115 = true) ∨ (x109.2.1 ≠ x37.2.1 ∨ x109.2.2 ≠ x37.2.2))
                      · rw [if_pos hc15] at h
                        refine Go.condT rfl ((iOr (iNot Iff.rfl) (iOr iNe iNe)).2 hc15) ?_
                        refine Go.seq ?_
                        refine Go.r0 c5 rfl rfl (sq z5 (oAsI rfl rfl) <| nl) ?_
                        refine Unw.seq ?_
                        refine Go.ret (Unw.ret ?_)
                        cases h
                        exact Fin_ret (fin_of rfl rF5 rfl (by kernel_rfl))
                      · rw [if_neg hc15] at h
                        refine Go.condF rfl (byF (iOr (iNot Iff.rfl) (iOr iNe iNe)) hc15) ?_
                        refine Go.skip ?_
                        refine Unw.seq ?_
                        refine Go.seq ?_
                        refine Go.r0 c5 rfl rfl (sq z5 (oAsI rfl rfl) <| nl) ?_
                        refine Unw.seq ?_
                        refine Go.seq ?_
                        obtain ⟨x129, hx129, h⟩ := bs h
                        refine Go.r0 c5 rfl rfl (sq z5 (oMv rfl rfl) <| sq z5 (oMv rfl rfl) <| sq z5 (oCa (xs := [.v false [.own 12 0 0], .v false [.im 0 _]]) (vs := [(false, [.im 0 _])]) (v := .v false [.im 0 _]) (L_laws_heldInt64S hx129) (.inl rfl) rfl kF31_27_3 rfl (ppC rfl (ppC rfl pp0)) rfl rfl pb0 rfl rfl rfl) <| sq z5 (oAsI rfl rfl) <| nl) ?_
                        refine Unw.seq ?_
                        refine Go.seq ?_
                        refine Go.seq ?_
                        refine Go.r0 c5 rfl rfl (sq z5 (oMv rfl rfl) <| sq z5 (oBi rfl rfl rfl rfl) <| nl) ?_
                        refine Unw.seq ?_
                        by_cases hc16 : x129 < 0
                        · rw [if_pos hc16] at h
                          refine Go.condT rfl (iDec.2 hc16) ?_
                          refine Go.seq ?_
                          refine Go.r0 c5 rfl rfl (sq z5 (oAsI rfl rfl) <| nl) ?_
                          refine Unw.seq ?_
                          refine Go.ret (Unw.ret ?_)
                          cases h
                          exact Fin_ret (fin_of rfl rF5 rfl (by kernel_rfl))
                        · rw [if_neg hc16] at h
                          refine Go.condF rfl (byF iDec hc16) ?_
                          refine Go.skip ?_
                          refine Unw.seq ?_
                          refine Go.seq ?_
                          refine Go.seq ?_
                          refine Go.r0 c5 rfl rfl (sq z5 (oMv rfl rfl) <| sq z5 (oMv rfl rfl) <| sq z5 (oBi rfl rfl rfl rfl) <| nl) ?_
                          refine Unw.seq ?_
                          by_cases hc17 : x129 ≠ x94.1
                          · rw [if_pos hc17] at h
                            refine Go.condT rfl (iNe.2 hc17) ?_
                            refine Go.seq ?_
                            refine Go.r0 c5 rfl rfl (sq z5 (oAsI rfl rfl) <| nl) ?_
                            refine Unw.seq ?_
                            refine Go.ret (Unw.ret ?_)
                            cases h
                            exact Fin_ret (fin_of rfl rF5 rfl (by kernel_rfl))
                          · rw [if_neg hc17] at h
                            refine Go.condF rfl (byF iNe hc17) ?_
                            refine Go.skip ?_
                            refine Unw.seq ?_
                            refine Go.seq ?_
                            refine Go.r0 c5 rfl rfl (sq z5 (oAsI rfl rfl) <| nl) ?_
                            refine Unw.seq ?_
                            refine Go.ret (Unw.ret ?_)
                            cases h
                            exact Fin_ret (fin_of rfl rF5 rfl (by kernel_rfl))
          · rw [if_neg hc6] at h
            refine Go.condT rfl (nT (byF Iff.rfl hc6)) ?_
            refine Go.seq ?_
            refine Go.r0 c5 rfl rfl (sq z5 (oAsI rfl rfl) <| nl) ?_
            refine Unw.seq ?_
            refine Go.ret (Unw.ret ?_)
            cases h
            exact Fin_ret (fin_of rfl rF5 rfl (by kernel_rfl))
end
end Go.Proofs.Ytigjhjlkdamncaa
