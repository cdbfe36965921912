/- The machine answers, at each function of the program that is reached, what its plain function answers: a further part. Conditions: none. -/
import Derived.Test.YtigjhjlkdamncaaTbgLa
namespace Go.Proofs.Ytigjhjlkdamncaa
open Go Go.Sim Go.Pw Go.Proofs
set_option linter.unusedVariables false
set_option linter.unusedSimpArgs false
set_option maxRecDepth 100000
set_option maxHeartbeats 4000000
noncomputable section

theorem L_impl_glueSearch_run_F {self : (S_glueSearch × (List Int) × S_gluing) → Option (Bool × S_glueSearch)} (ih : ∀ {s_0 : S_glueSearch} {order_1 : (List Int)} {g_2 : S_gluing} {r : (Bool × S_glueSearch)}, self (s_0, order_1, g_2) = some r → FL Try.prog cfg 138 [.ptr true [(.imm, .row 4 (List.map e_S_Bond s_0.list)), (.imm, .sc (.int .i64 s_0.presses)), (.imm, .sc (.int .i64 s_0.left)), (.imm, .sc (.bool s_0.found)), (.sh, .row 1 (List.map eI s_0.best)), (.imm, .sc (.int .i64 s_0.least))], .mv 1 (List.map eI order_1), .im 2 true [.sc (.int .i64 g_2.ready), .sc (.int .i64 g_2.free.e0), .sc (.int .i64 g_2.free.e1), .sc (.int .i64 g_2.free.e2), .sc (.int .i64 g_2.free.e3), .sc (.int .i64 g_2.end_)]] = some ([(false, [.im 0 (.sc (.bool r.1))])], [.ptr true [(.imm, .row 4 (List.map e_S_Bond r.2.list)), (.imm, .sc (.int .i64 r.2.presses)), (.imm, .sc (.int .i64 r.2.left)), (.imm, .sc (.bool r.2.found)), (.sh, .row 1 (List.map eI r.2.best)), (.imm, .sc (.int .i64 r.2.least))]])) {s_0 : S_glueSearch} {order_1 : (List Int)} {g_2 : S_gluing} {r : (Bool × S_glueSearch)} (h : impl_glueSearch_run_F self s_0 order_1 g_2 = some r) : FL Try.prog cfg 138 [.ptr true [(.imm, .row 4 (List.map e_S_Bond s_0.list)), (.imm, .sc (.int .i64 s_0.presses)), (.imm, .sc (.int .i64 s_0.left)), (.imm, .sc (.bool s_0.found)), (.sh, .row 1 (List.map eI s_0.best)), (.imm, .sc (.int .i64 s_0.least))], .mv 1 (List.map eI order_1), .im 2 true [.sc (.int .i64 g_2.ready), .sc (.int .i64 g_2.free.e0), .sc (.int .i64 g_2.free.e1), .sc (.int .i64 g_2.free.e2), .sc (.int .i64 g_2.free.e3), .sc (.int .i64 g_2.end_)]] = some ([(false, [.im 0 (.sc (.bool r.1))])], [.ptr true [(.imm, .row 4 (List.map e_S_Bond r.2.list)), (.imm, .sc (.int .i64 r.2.presses)), (.imm, .sc (.int .i64 r.2.left)), (.imm, .sc (.bool r.2.found)), (.sh, .row 1 (List.map eI r.2.best)), (.imm, .sc (.int .i64 r.2.least))]]) := by
  unfold impl_glueSearch_run_F at h
  refine FL_goS (A := [(0, .v false [.mp 0 0 0]), (1, .v false [.own 1 0 0]), (2, .v true [.im 2 (.sc (.int .i64 g_2.ready)), .im 2 (.sc (.int .i64 g_2.free.e0)), .im 2 (.sc (.int .i64 g_2.free.e1)), .im 2 (.sc (.int .i64 g_2.free.e2)), .im 2 (.sc (.int .i64 g_2.free.e3)), .im 2 (.sc (.int .i64 g_2.end_))])]) (B := [(0, some ⟨0, 0, true, true, false, true, [⟨.imm, 0, 1, .row 4 (List.map e_S_Bond s_0.list)⟩, ⟨.imm, 0, 0, .sc (.int .i64 s_0.presses)⟩, ⟨.imm, 0, 0, .sc (.int .i64 s_0.left)⟩, ⟨.imm, 0, 0, .sc (.bool s_0.found)⟩, ⟨.sh, 0, 0, .row 1 (List.map eI s_0.best)⟩, ⟨.imm, 0, 0, .sc (.int .i64 s_0.least)⟩]⟩), (1, some ⟨0, 0, false, false, false, false, [⟨.sh, 0, 0, .row 1 (List.map eI order_1)⟩]⟩), (2, none)]) (nt := 87) rfl rfl Try.func138 rfl rfl rfl rfl ?_
  refine Go.seq ?_
  refine Go.r0 c138 rfl rfl (sq z138 (oBx rfl tF218 rfl (tkI (tkI (tkI (tkI (tkI (tkI tk0))))))) <| sq z138 (oAsI rfl rfl) <| nl) ?_
  refine Unw.seq ?_
  refine Go.seq ?_
  refine Go.seq ?_
  refine Go.r1 c138 rfl rfl (st1 := mk [(0, .v false [.mp 0 0 0]), (1, .v false [.own 1 0 0]), (5, .v false [.mp 5 0 0])] [(0, some ⟨0, 0, true, true, false, true, [⟨.imm, 0, 1, .row 4 (List.map e_S_Bond s_0.list)⟩, ⟨.imm, 0, 0, .sc (.int .i64 s_0.presses)⟩, ⟨.imm, 0, 0, .sc (.int .i64 s_0.left)⟩, ⟨.imm, 0, 0, .sc (.bool s_0.found)⟩, ⟨.sh, 0, 0, .row 1 (List.map eI s_0.best)⟩, ⟨.imm, 0, 0, .sc (.int .i64 s_0.least)⟩]⟩), (1, some ⟨0, 0, false, false, false, false, [⟨.sh, 0, 0, .row 1 (List.map eI order_1)⟩]⟩), (5, some ⟨0, 0, false, true, false, true, [⟨.imm, 0, 0, .sc (.int .i64 g_2.ready)⟩, ⟨.imm, 0, 0, .sc (.int .i64 g_2.free.e0)⟩, ⟨.imm, 0, 0, .sc (.int .i64 g_2.free.e1)⟩, ⟨.imm, 0, 0, .sc (.int .i64 g_2.free.e2)⟩, ⟨.imm, 0, 0, .sc (.int .i64 g_2.free.e3)⟩, ⟨.imm, 0, 0, .sc (.int .i64 g_2.end_)⟩]⟩)]) (by kernel_rfl) (sq z138 (oMv rfl rfl) <| sq z138 (oLnO rfl rfl uF27 rfl rfl rfl (fun e => nomatch e)) <| sq z138 (oMv rfl rfl) <| sq z138 (oNl rfl rfl rfl) <| sq z138 (oFA (r' := .mp 0 0 0) rfl fF214_0 rfl rfl) <| sq z138 (oLd (cs := [.im 1 _]) rfl tF81 rfl rfl) <| sq z138 (oLnI rfl rfl uF81 rfl) <| sq z138 (oBi rfl rfl rfl rfl) <| nl) ?_
  refine Unw.seq ?_
  by_cases hc1 : (order_1.length : Int) = (s_0.list.length : Int)
  · rw [if_pos hc1] at h
    refine Go.condT rfl (iEq.2 hc1) ?_
    refine Go.seq ?_
    refine Go.dr c138 rfl rfl rfl rfl (mk [] [(0, some ⟨0, 0, true, true, false, true, [⟨.imm, 0, 1, .row 4 (List.map e_S_Bond s_0.list)⟩, ⟨.imm, 0, 0, .sc (.int .i64 s_0.presses)⟩, ⟨.imm, 0, 0, .sc (.int .i64 s_0.left)⟩, ⟨.imm, 0, 0, .sc (.bool true)⟩, ⟨.sh, 0, 0, .row 1 (List.map eI order_1)⟩, ⟨.imm, 0, 0, .sc (.int .i64 g_2.end_)⟩]⟩)]) (sT rfl (dN z138 rfl (oMv rfl rfl)) <| sT rfl (dN z138 rfl (oMv rfl rfl)) <| sT rfl (dN z138 rfl (oMv rfl rfl)) <| sT rfl (dN z138 rfl (oMv rfl rfl)) <| sT rfl (dN z138 rfl (oNl rfl rfl rfl)) <| sT rfl (dN z138 rfl (oFA (r' := .mp 0 0 3) rfl fF214_3 rfl rfl)) <| sF (dN z138 rfl (oFA (r' := .mp 5 0 5) rfl fF218_2 rfl rfl)) trivial (sF (dN z138 rfl (oLd (cs := [.im 0 _]) rfl tF2 rfl rfl)) trivial (sS (dN z138 rfl (oSt tF4 rfl rfl rfl (tkI tk0) rfl rfl rfl)) trivial (sT rfl (dN z138 rfl (oNl rfl rfl rfl)) <| sT rfl (dN z138 rfl (oFA (r' := .mp 0 0 4) rfl fF214_4 rfl rfl)) <| sS (dN z138 rfl (oSt tF27 rfl rfl rfl (tkO rfl rfl tk0) rfl rfl rfl)) trivial (sT rfl (dN z138 rfl (oNl rfl rfl rfl)) <| sT rfl (dN z138 rfl (oFA (r' := .mp 0 0 5) rfl fF214_5 rfl rfl)) <| sS (dN z138 rfl (oSt tF2 rfl rfl rfl (tkI tk0) rfl rfl rfl)) trivial (sD (by kernel_rfl))))) (sS (dN z138 rfl (oSt tF4 rfl rfl rfl (tkI tk0) rfl rfl rfl)) trivial (sT rfl (dN z138 rfl (oNl rfl rfl rfl)) <| sT rfl (dN z138 rfl (oFA (r' := .mp 0 0 4) rfl fF214_4 rfl rfl)) <| sF (dN z138 rfl (oLd (cs := [.im 0 _]) rfl tF2 rfl rfl)) trivial (sS (dN z138 rfl (oSt tF27 rfl rfl rfl (tkO rfl rfl tk0) rfl rfl rfl)) trivial (sT rfl (dN z138 rfl (oNl rfl rfl rfl)) <| sT rfl (dN z138 rfl (oFA (r' := .mp 0 0 5) rfl fF214_5 rfl rfl)) <| sS (dN z138 rfl (oSt tF2 rfl rfl rfl (tkI tk0) rfl rfl rfl)) trivial (sD (by kernel_rfl)))) (sS (dN z138 rfl (oSt tF27 rfl rfl rfl (tkO rfl rfl tk0) rfl rfl rfl)) trivial (sT rfl (dN z138 rfl (oLd (cs := [.im 0 _]) rfl tF2 rfl rfl)) <| sT rfl (dN z138 rfl (oNl rfl rfl rfl)) <| sT rfl (dN z138 rfl (oFA (r' := .mp 0 0 5) rfl fF214_5 rfl rfl)) <| sS (dN z138 rfl (oSt tF2 rfl rfl rfl (tkI tk0) rfl rfl rfl)) trivial (sD (by kernel_rfl))))))) (sS (dN z138 rfl (oSt tF4 rfl rfl rfl (tkI tk0) rfl rfl rfl)) trivial (sT rfl (dN z138 rfl (oNl rfl rfl rfl)) <| sT rfl (dN z138 rfl (oFA (r' := .mp 0 0 4) rfl fF214_4 rfl rfl)) <| sF (dN z138 rfl (oFA (r' := .mp 5 0 5) rfl fF218_2 rfl rfl)) trivial (sF (dN z138 rfl (oLd (cs := [.im 0 _]) rfl tF2 rfl rfl)) trivial (sS (dN z138 rfl (oSt tF27 rfl rfl rfl (tkO rfl rfl tk0) rfl rfl rfl)) trivial (sT rfl (dN z138 rfl (oNl rfl rfl rfl)) <| sT rfl (dN z138 rfl (oFA (r' := .mp 0 0 5) rfl fF214_5 rfl rfl)) <| sS (dN z138 rfl (oSt tF2 rfl rfl rfl (tkI tk0) rfl rfl rfl)) trivial (sD (by kernel_rfl)))) (sS (dN z138 rfl (oSt tF27 rfl rfl rfl (tkO rfl rfl tk0) rfl rfl rfl)) trivial (sT rfl (dN z138 rfl (oLd (cs := [.im 0 _]) rfl tF2 rfl rfl)) <| sT rfl (dN z138 rfl (oNl rfl rfl rfl)) <| sT rfl (dN z138 rfl (oFA (r' := .mp 0 0 5) rfl fF214_5 rfl rfl)) <| sS (dN z138 rfl (oSt tF2 rfl rfl rfl (tkI tk0) rfl rfl rfl)) trivial (sD (by kernel_rfl))))) (sS (dN z138 rfl (oSt tF27 rfl rfl rfl (tkO rfl rfl tk0) rfl rfl rfl)) trivial (sT rfl (dN z138 rfl (oFA (r' := .mp 5 0 5) rfl fF218_2 rfl rfl)) <| sT rfl (dN z138 rfl (oLd (cs := [.im 0 _]) rfl tF2 rfl rfl)) <| sT rfl (dN z138 rfl (oNl rfl rfl rfl)) <| sT rfl (dN z138 rfl (oFA (r' := .mp 0 0 5) rfl fF214_5 rfl rfl)) <| sS (dN z138 rfl (oSt tF2 rfl rfl rfl (tkI tk0) rfl rfl rfl)) trivial (sD (by kernel_rfl))))))) ?_
    refine Unw.seq ?_
    refine Go.seq ?_
    refine Go.r0 c138 rfl rfl (sq z138 (oAsI rfl rfl) <| nl) ?_
    refine Unw.seq ?_
    refine Go.ret (Unw.ret ?_)
    cases h
    exact Fin_ret (fin_of rfl rF138 rfl (by kernel_rfl))
  · rw [if_neg hc1] at h
    refine Go.condF rfl (byF iEq hc1) ?_
    refine Go.skip ?_
    refine Unw.seq ?_
    refine Go.seq ?_
    refine Go.seq ?_
    refine Go.r0 c138 rfl rfl (sq z138 (oMv rfl rfl) <| sq z138 (oNl rfl rfl rfl) <| sq z138 (oFA (r' := .mp 0 0 0) rfl fF214_0 rfl rfl) <| sq z138 (oLd (cs := [.im 1 _]) rfl tF81 rfl rfl) <| sq z138 (oLnI rfl rfl uF81 rfl) <| sq z138 (oMv rfl rfl) <| nl) ?_
    refine Unw.seq ?_
    refine Go.block ?_
    obtain ⟨o, hl, h⟩ := bs h
    refine Go.lp c138 rfl _ (fun (s : (Int × (List S_Bond) × Int × Int × Bool × (List Int) × Int)) => match s with | (t_34_l5, s_o0_0_l5, s_o0_1_l5, s_o0_2_l5, s_o0_3_l5, s_o0_4_l5, s_o0_5_l5) => mk [(0, .v false [.mp 0 0 0]), (1, .v false [.own 1 0 0]), (5, .v false [.mp 5 0 0]), (33, iv (s_0.list.length : Int)), (34, iv t_34_l5)] [(0, some ⟨0, 0, true, true, false, true, [⟨.imm, 0, 1, .row 4 (List.map e_S_Bond s_o0_0_l5)⟩, ⟨.imm, 0, 0, .sc (.int .i64 s_o0_1_l5)⟩, ⟨.imm, 0, 0, .sc (.int .i64 s_o0_2_l5)⟩, ⟨.imm, 0, 0, .sc (.bool s_o0_3_l5)⟩, ⟨.sh, 0, 0, .row 1 (List.map eI s_o0_4_l5)⟩, ⟨.imm, 0, 0, .sc (.int .i64 s_o0_5_l5)⟩]⟩), (1, some ⟨0, 0, false, false, false, false, [⟨.sh, 0, 0, .row 1 (List.map eI order_1)⟩]⟩), (5, some ⟨0, 0, false, true, false, true, [⟨.imm, 0, 0, .sc (.int .i64 g_2.ready)⟩, ⟨.imm, 0, 0, .sc (.int .i64 g_2.free.e0)⟩, ⟨.imm, 0, 0, .sc (.int .i64 g_2.free.e1)⟩, ⟨.imm, 0, 0, .sc (.int .i64 g_2.free.e2)⟩, ⟨.imm, 0, 0, .sc (.int .i64 g_2.free.e3)⟩, ⟨.imm, 0, 0, .sc (.int .i64 g_2.end_)⟩]⟩)]) (fun (o : (((List S_Bond) × Int × Int × Bool × (List Int) × Int) ⊕ (Bool × S_glueSearch))) (p : Ex × St) => match o with | (.inl (s_o0_0_e0_5, s_o0_1_e0_5, s_o0_2_e0_5, s_o0_3_e0_5, s_o0_4_e0_5, s_o0_5_e0_5)) => p.1 = .exit 0 ∧ p.2.norm ([], [0]) = mk [] [(0, some ⟨0, 0, true, true, false, true, [⟨.imm, 0, 1, .row 4 (List.map e_S_Bond s_o0_0_e0_5)⟩, ⟨.imm, 0, 0, .sc (.int .i64 s_o0_1_e0_5)⟩, ⟨.imm, 0, 0, .sc (.int .i64 s_o0_2_e0_5)⟩, ⟨.imm, 0, 0, .sc (.bool s_o0_3_e0_5)⟩, ⟨.sh, 0, 0, .row 1 (List.map eI s_o0_4_e0_5)⟩, ⟨.imm, 0, 0, .sc (.int .i64 s_o0_5_e0_5)⟩]⟩)] | (.inr r2) => p.1 = .ret ∧ fin Try.prog cfg 138 Try.f138 [.ptr true [(.imm, .row 4 (List.map e_S_Bond s_0.list)), (.imm, .sc (.int .i64 s_0.presses)), (.imm, .sc (.int .i64 s_0.left)), (.imm, .sc (.bool s_0.found)), (.sh, .row 1 (List.map eI s_0.best)), (.imm, .sc (.int .i64 s_0.least))], .mv 1 (List.map eI order_1), .im 2 true [.sc (.int .i64 g_2.ready), .sc (.int .i64 g_2.free.e0), .sc (.int .i64 g_2.free.e1), .sc (.int .i64 g_2.free.e2), .sc (.int .i64 g_2.free.e3), .sc (.int .i64 g_2.end_)]] p.2 = some ([(false, [.im 0 (.sc (.bool r2.1))])], [.ptr true [(.imm, .row 4 (List.map e_S_Bond r2.2.list)), (.imm, .sc (.int .i64 r2.2.presses)), (.imm, .sc (.int .i64 r2.2.left)), (.imm, .sc (.bool r2.2.found)), (.sh, .row 1 (List.map eI r2.2.best)), (.imm, .sc (.int .i64 r2.2.least))]])) hl (by kernel_rfl) ?_ ?_ ?_
    · intro o p hp e
      rcases o with ⟨s_o0_0_e0_5, s_o0_1_e0_5, s_o0_2_e0_5, s_o0_3_e0_5, s_o0_4_e0_5, s_o0_5_e0_5⟩ | r2 <;> exact nomatch (hp.1.symm.trans e)
    · rintro ⟨t_34_l5, s_o0_0_l5, s_o0_1_l5, s_o0_2_l5, s_o0_3_l5, s_o0_4_l5, s_o0_5_l5⟩ o h
      unfold impl_glueSearch_run_l5 at h
      dsimp only at h
      refine Go.seq ?_
      refine Go.r0 c138 rfl rfl (sq z138 (oBi rfl rfl rfl rfl) <| nl) ?_
      refine Unw.seq ?_
      refine Go.seq ?_
      by_cases hc14 : t_34_l5 < (s_0.list.length : Int)
      · rw [if_pos hc14] at h
        refine Go.condT rfl (iDec.2 hc14) ?_
        refine Go.skip ?_
        refine Unw.seq ?_
        refine Go.seq ?_
        refine Go.join (fun st => ∃ s_o0_0_r16, ∃ s_o0_1_r16, ∃ s_o0_2_r16, ∃ s_o0_3_r16, ∃ s_o0_4_r16, ∃ s_o0_5_r16, impl_glueSearch_run_k16 self t_34_l5 s_o0_0_r16 s_o0_1_r16 s_o0_2_r16 s_o0_3_r16 s_o0_4_r16 s_o0_5_r16 = some o ∧ st.norm ([0, 1, 5, 33, 34], [0, 1, 5]) = mk [(0, .v false [.mp 0 0 0]), (1, .v false [.own 1 0 0]), (5, .v false [.mp 5 0 0]), (33, iv (s_0.list.length : Int)), (34, iv t_34_l5)] [(0, some ⟨0, 0, true, true, false, true, [⟨.imm, 0, 1, .row 4 (List.map e_S_Bond s_o0_0_r16)⟩, ⟨.imm, 0, 0, .sc (.int .i64 s_o0_1_r16)⟩, ⟨.imm, 0, 0, .sc (.int .i64 s_o0_2_r16)⟩, ⟨.imm, 0, 0, .sc (.bool s_o0_3_r16)⟩, ⟨.sh, 0, 0, .row 1 (List.map eI s_o0_4_r16)⟩, ⟨.imm, 0, 0, .sc (.int .i64 s_o0_5_r16)⟩]⟩), (1, some ⟨0, 0, false, false, false, false, [⟨.sh, 0, 0, .row 1 (List.map eI order_1)⟩]⟩), (5, some ⟨0, 0, false, true, false, true, [⟨.imm, 0, 0, .sc (.int .i64 g_2.ready)⟩, ⟨.imm, 0, 0, .sc (.int .i64 g_2.free.e0)⟩, ⟨.imm, 0, 0, .sc (.int .i64 g_2.free.e1)⟩, ⟨.imm, 0, 0, .sc (.int .i64 g_2.free.e2)⟩, ⟨.imm, 0, 0, .sc (.int .i64 g_2.free.e3)⟩, ⟨.imm, 0, 0, .sc (.int .i64 g_2.end_)⟩]⟩)]) ?_ ?_
        · rintro st ⟨s_o0_0_r16, s_o0_1_r16, s_o0_2_r16, s_o0_3_r16, s_o0_4_r16, s_o0_5_r16, h, hst⟩
          unfold impl_glueSearch_run_k16 at h
          refine Unw.seq ?_
          refine Go.r1 c138 rfl rfl hst (sq z138 (oBi rfl rfl rfl rfl) <| sq z138 (oMv rfl rfl) <| nl) ?_
          refine Unw.nil ?_
          cases h
          exact ⟨rfl, (by kernel_rfl)⟩
        · intro K20
          refine Go.block ?_
          refine Go.seq ?_
          refine Go.r0 c138 rfl rfl (sq z138 (oMv rfl rfl) <| sq z138 (oAsI rfl rfl) <| nl) ?_
          refine Unw.seq ?_
          refine Go.seq ?_
          refine Go.seq ?_
          obtain ⟨x39, hx39, h⟩ := bs h
          refine Go.r0 c138 rfl rfl (sq z138 (oMv rfl rfl) <| sq z138 (oMv rfl rfl) <| sq z138 (oCa (xs := [.v false [.own 1 0 0], .v false [.im 0 _]]) (vs := [(false, [.im 0 _])]) (v := .v false [.im 0 _]) (L_slices_Contains_int64_int64 hx39) (.inl rfl) rfl kF152_27_2 rfl (ppC rfl (ppC rfl pp0)) rfl rfl pb0 rfl rfl rfl) <| nl) ?_
          refine Unw.seq ?_
          by_cases hc21 : x39 = true
          · rw [if_pos hc21] at h
            refine Go.condT rfl (Iff.rfl.2 hc21) ?_
            refine Go.exit ?_
            refine Unw.seqx ?_
            refine Unw.blkx ?_
            exact K20 _ ⟨s_o0_0_l5, s_o0_1_l5, s_o0_2_l5, s_o0_3_l5, s_o0_4_l5, s_o0_5_l5, h, (by kernel_rfl)⟩
          · rw [if_neg hc21] at h
            refine Go.condF rfl (byF Iff.rfl hc21) ?_
            refine Go.skip ?_
            refine Unw.seq ?_
            refine Go.seq ?_
            refine Go.r0 c138 rfl rfl (sq z138 (oLd (cs := [.im 0 _, .im 0 _, .im 0 _, .im 0 _, .im 0 _, .im 0 _]) rfl tF218 rfl rfl) <| sq z138 (oAl rfl tF218 (tkI (tkI (tkI (tkI (tkI (tkI tk0))))))) <| sq z138 (oSt tF218 rfl rfl rfl (tkI (tkI (tkI (tkI (tkI (tkI tk0)))))) rfl rfl rfl) <| nl) ?_
            refine Unw.seq ?_
            refine Go.seq ?_
            obtain ⟨x46, hx46, h⟩ := bs h
            obtain ⟨x52, hx52, h⟩ := bs h
            refine Go.dr c138 rfl rfl rfl (st1 := mk [(0, .v false [.mp 0 0 0]), (1, .v false [.own 1 0 0]), (5, .v false [.mp 5 0 0]), (7, iv t_34_l5), (8, .v false [.mp 8 0 0]), (33, iv (s_0.list.length : Int)), (34, iv t_34_l5)] [(0, some ⟨0, 0, true, true, false, true, [⟨.imm, 0, 1, .row 4 (List.map e_S_Bond s_o0_0_l5)⟩, ⟨.imm, 0, 0, .sc (.int .i64 s_o0_1_l5)⟩, ⟨.imm, 0, 0, .sc (.int .i64 s_o0_2_l5)⟩, ⟨.imm, 0, 0, .sc (.bool s_o0_3_l5)⟩, ⟨.sh, 0, 0, .row 1 (List.map eI s_o0_4_l5)⟩, ⟨.imm, 0, 0, .sc (.int .i64 s_o0_5_l5)⟩]⟩), (1, some ⟨0, 0, false, false, false, false, [⟨.sh, 0, 0, .row 1 (List.map eI order_1)⟩]⟩), (5, some ⟨0, 0, false, true, false, true, [⟨.imm, 0, 0, .sc (.int .i64 g_2.ready)⟩, ⟨.imm, 0, 0, .sc (.int .i64 g_2.free.e0)⟩, ⟨.imm, 0, 0, .sc (.int .i64 g_2.free.e1)⟩, ⟨.imm, 0, 0, .sc (.int .i64 g_2.free.e2)⟩, ⟨.imm, 0, 0, .sc (.int .i64 g_2.free.e3)⟩, ⟨.imm, 0, 0, .sc (.int .i64 g_2.end_)⟩]⟩), (8, some ⟨0, 0, false, true, false, true, [⟨.imm, 0, 0, .sc (.int .i64 g_2.ready)⟩, ⟨.imm, 0, 0, .sc (.int .i64 g_2.free.e0)⟩, ⟨.imm, 0, 0, .sc (.int .i64 g_2.free.e1)⟩, ⟨.imm, 0, 0, .sc (.int .i64 g_2.free.e2)⟩, ⟨.imm, 0, 0, .sc (.int .i64 g_2.free.e3)⟩, ⟨.imm, 0, 0, .sc (.int .i64 g_2.end_)⟩]⟩)]) (by kernel_rfl) (mk [(0, .v false [.mp 0 0 0]), (1, .v false [.own 1 0 0]), (5, .v false [.mp 5 0 0]), (7, iv t_34_l5), (8, .v false [.mp 8 0 0]), (33, iv (s_0.list.length : Int)), (34, iv t_34_l5)] [(0, some ⟨0, 0, true, true, false, true, [⟨.imm, 0, 1, .row 4 (List.map e_S_Bond s_o0_0_l5)⟩, ⟨.imm, 0, 0, .sc (.int .i64 s_o0_1_l5)⟩, ⟨.imm, 0, 0, .sc (.int .i64 s_o0_2_l5)⟩, ⟨.imm, 0, 0, .sc (.bool s_o0_3_l5)⟩, ⟨.sh, 0, 0, .row 1 (List.map eI s_o0_4_l5)⟩, ⟨.imm, 0, 0, .sc (.int .i64 s_o0_5_l5)⟩]⟩), (1, some ⟨0, 0, false, false, false, false, [⟨.sh, 0, 0, .row 1 (List.map eI order_1)⟩]⟩), (5, some ⟨0, 0, false, true, false, true, [⟨.imm, 0, 0, .sc (.int .i64 g_2.ready)⟩, ⟨.imm, 0, 0, .sc (.int .i64 g_2.free.e0)⟩, ⟨.imm, 0, 0, .sc (.int .i64 g_2.free.e1)⟩, ⟨.imm, 0, 0, .sc (.int .i64 g_2.free.e2)⟩, ⟨.imm, 0, 0, .sc (.int .i64 g_2.free.e3)⟩, ⟨.imm, 0, 0, .sc (.int .i64 g_2.end_)⟩]⟩), (8, some ⟨0, 0, false, true, false, true, [⟨.imm, 0, 0, .sc (.int .i64 x52.2.ready)⟩, ⟨.imm, 0, 0, .sc (.int .i64 x52.2.free.e0)⟩, ⟨.imm, 0, 0, .sc (.int .i64 x52.2.free.e1)⟩, ⟨.imm, 0, 0, .sc (.int .i64 x52.2.free.e2)⟩, ⟨.imm, 0, 0, .sc (.int .i64 x52.2.free.e3)⟩, ⟨.imm, 0, 0, .sc (.int .i64 x52.2.end_)⟩]⟩)]) (sT rfl (dN z138 rfl (oMv rfl rfl)) <| sT rfl (dN z138 rfl (oNl rfl rfl rfl)) <| sT rfl (dN z138 rfl (oFA (r' := .mp 0 0 0) rfl fF214_0 rfl rfl)) <| sT rfl (dN z138 rfl (oLd (cs := [.im 1 _]) rfl tF81 rfl rfl)) <| sT rfl (dN z138 rfl (oMv rfl rfl)) <| sT rfl (dN z138 rfl (oIAI rfl hx46 sF81 rfl rfl)) <| sT rfl (dN z138 rfl (oLd (cs := [.im 1 _, .im 1 _, .im 1 _, .im 1 _]) rfl tF209 rfl rfl)) <| sT rfl (dN z138 rfl (oMv rfl rfl)) <| sT rfl (dN z138 rfl (oNl rfl rfl rfl)) <| sT rfl (dN z138 rfl (oFA (r' := .mp 0 0 1) rfl fF214_1 rfl rfl)) <| sT rfl (dN z138 rfl (oLd (cs := [.im 0 _]) rfl tF2 rfl rfl)) <| sS (dN z138 rfl (oCa (xs := [.v false [.mp 8 0 0], .v true [.im 1 _, .im 1 _, .im 1 _, .im 1 _], .v false [.im 0 _]]) (vs := [(true, [.im 0 _, .im 0 _, .im 0 _, .im 0 _])]) (v := .v true [.im 0 _, .im 0 _, .im 0 _, .im 0 _]) (L_impl_gluing_add hx52) (.inl rfl) rfl kF220_218_209_2 rfl (ppPx (ob' := ⟨0, 0, false, true, false, true, [⟨.imm, 0, 0, .sc (.int .i64 g_2.ready)⟩, ⟨.imm, 0, 0, .sc (.int .i64 g_2.free.e0)⟩, ⟨.imm, 0, 0, .sc (.int .i64 g_2.free.e1)⟩, ⟨.imm, 0, 0, .sc (.int .i64 g_2.free.e2)⟩, ⟨.imm, 0, 0, .sc (.int .i64 g_2.free.e3)⟩, ⟨.imm, 0, 0, .sc (.int .i64 g_2.end_)⟩]⟩) rfl rfl rfl (by kernel_rfl) (ppC rfl (ppC rfl pp0))) rfl rfl (pbPx (ob' := ⟨0, 1, false, true, false, true, [⟨.imm, 1, 0, .sc (.int .i64 x52.2.ready)⟩, ⟨.imm, 1, 0, .sc (.int .i64 x52.2.free.e0)⟩, ⟨.imm, 1, 0, .sc (.int .i64 x52.2.free.e1)⟩, ⟨.imm, 1, 0, .sc (.int .i64 x52.2.free.e2)⟩, ⟨.imm, 1, 0, .sc (.int .i64 x52.2.free.e3)⟩, ⟨.imm, 1, 0, .sc (.int .i64 x52.2.end_)⟩]⟩) rfl rfl (by kernel_rfl) pb0) rfl rfl rfl)) trivial (sD (by kernel_rfl))) ?_
            refine Unw.seq ?_
            refine Go.seq ?_
            refine Go.seq ?_
            refine Go.dr c138 rfl rfl rfl rfl (mk [(0, .v false [.mp 0 0 0]), (1, .v false [.own 1 0 0]), (5, .v false [.mp 5 0 0]), (7, iv t_34_l5), (8, .v false [.mp 8 0 0]), (33, iv (s_0.list.length : Int)), (34, iv t_34_l5), (65, bv (s_o0_3_l5 && (decide (x52.2.end_ ≥ s_o0_5_l5))))] [(0, some ⟨0, 0, true, true, false, true, [⟨.imm, 0, 1, .row 4 (List.map e_S_Bond s_o0_0_l5)⟩, ⟨.imm, 0, 0, .sc (.int .i64 s_o0_1_l5)⟩, ⟨.imm, 0, 0, .sc (.int .i64 s_o0_2_l5)⟩, ⟨.imm, 0, 0, .sc (.bool s_o0_3_l5)⟩, ⟨.sh, 0, 0, .row 1 (List.map eI s_o0_4_l5)⟩, ⟨.imm, 0, 0, .sc (.int .i64 s_o0_5_l5)⟩]⟩), (1, some ⟨0, 0, false, false, false, false, [⟨.sh, 0, 0, .row 1 (List.map eI order_1)⟩]⟩), (5, some ⟨0, 0, false, true, false, true, [⟨.imm, 0, 0, .sc (.int .i64 g_2.ready)⟩, ⟨.imm, 0, 0, .sc (.int .i64 g_2.free.e0)⟩, ⟨.imm, 0, 0, .sc (.int .i64 g_2.free.e1)⟩, ⟨.imm, 0, 0, .sc (.int .i64 g_2.free.e2)⟩, ⟨.imm, 0, 0, .sc (.int .i64 g_2.free.e3)⟩, ⟨.imm, 0, 0, .sc (.int .i64 g_2.end_)⟩]⟩), (8, some ⟨0, 0, false, true, false, true, [⟨.imm, 0, 0, .sc (.int .i64 x52.2.ready)⟩, ⟨.imm, 0, 0, .sc (.int .i64 x52.2.free.e0)⟩, ⟨.imm, 0, 0, .sc (.int .i64 x52.2.free.e1)⟩, ⟨.imm, 0, 0, .sc (.int .i64 x52.2.free.e2)⟩, ⟨.imm, 0, 0, .sc (.int .i64 x52.2.free.e3)⟩, ⟨.imm, 0, 0, .sc (.int .i64 x52.2.end_)⟩]⟩)]) ?_ ?_
            · by_cases hc22 : s_o0_3_l5 = true
              · exact sT rfl (dN z138 rfl (oMv rfl rfl)) <| sT rfl (dN z138 rfl (oNl rfl rfl rfl)) <| sT rfl (dN z138 rfl (oFA (r' := .mp 0 0 3) rfl fF214_3 rfl rfl)) <| sT rfl (dN z138 rfl (oLd (cs := [.im 0 _]) rfl tF4 rfl rfl)) <| sT rfl (dN z138 rfl (oMv rfl rfl)) <| sT rfl (dT z138 rfl rfl rfl (Iff.rfl.2 hc22) (oFA (r' := .mp 8 0 5) rfl fF218_2 rfl rfl)) <| sT rfl (dT z138 rfl rfl rfl (Iff.rfl.2 hc22) (oLd (cs := [.im 0 _]) rfl tF2 rfl rfl)) <| sT rfl (dT z138 rfl rfl rfl (Iff.rfl.2 hc22) (oMv rfl rfl)) <| sT rfl (dT z138 rfl rfl rfl (Iff.rfl.2 hc22) (oNl rfl rfl rfl)) <| sT rfl (dT z138 rfl rfl rfl (Iff.rfl.2 hc22) (oFA (r' := .mp 0 0 5) rfl fF214_5 rfl rfl)) <| sT rfl (dT z138 rfl rfl rfl (Iff.rfl.2 hc22) (oLd (cs := [.im 0 _]) rfl tF2 rfl rfl)) <| sT rfl (dT z138 rfl rfl rfl (Iff.rfl.2 hc22) (oBi rfl rfl rfl rfl)) <| sT rfl (dN z138 rfl (oPkT rfl rfl (Iff.rfl.2 hc22) rfl)) <| sD (Eq.trans (b := (fun t_65_m10 : Bool => mk [(0, .v false [.mp 0 0 0]), (1, .v false [.own 1 0 0]), (5, .v false [.mp 5 0 0]), (7, iv t_34_l5), (8, .v false [.mp 8 0 0]), (33, iv (s_0.list.length : Int)), (34, iv t_34_l5), (65, bv t_65_m10)] [(0, some ⟨0, 0, true, true, false, true, [⟨.imm, 0, 1, .row 4 (List.map e_S_Bond s_o0_0_l5)⟩, ⟨.imm, 0, 0, .sc (.int .i64 s_o0_1_l5)⟩, ⟨.imm, 0, 0, .sc (.int .i64 s_o0_2_l5)⟩, ⟨.imm, 0, 0, .sc (.bool s_o0_3_l5)⟩, ⟨.sh, 0, 0, .row 1 (List.map eI s_o0_4_l5)⟩, ⟨.imm, 0, 0, .sc (.int .i64 s_o0_5_l5)⟩]⟩), (1, some ⟨0, 0, false, false, false, false, [⟨.sh, 0, 0, .row 1 (List.map eI order_1)⟩]⟩), (5, some ⟨0, 0, false, true, false, true, [⟨.imm, 0, 0, .sc (.int .i64 g_2.ready)⟩, ⟨.imm, 0, 0, .sc (.int .i64 g_2.free.e0)⟩, ⟨.imm, 0, 0, .sc (.int .i64 g_2.free.e1)⟩, ⟨.imm, 0, 0, .sc (.int .i64 g_2.free.e2)⟩, ⟨.imm, 0, 0, .sc (.int .i64 g_2.free.e3)⟩, ⟨.imm, 0, 0, .sc (.int .i64 g_2.end_)⟩]⟩), (8, some ⟨0, 0, false, true, false, true, [⟨.imm, 0, 0, .sc (.int .i64 x52.2.ready)⟩, ⟨.imm, 0, 0, .sc (.int .i64 x52.2.free.e0)⟩, ⟨.imm, 0, 0, .sc (.int .i64 x52.2.free.e1)⟩, ⟨.imm, 0, 0, .sc (.int .i64 x52.2.free.e2)⟩, ⟨.imm, 0, 0, .sc (.int .i64 x52.2.free.e3)⟩, ⟨.imm, 0, 0, .sc (.int .i64 x52.2.end_)⟩]⟩)]) (decide (x52.2.end_ ≥ s_o0_5_l5))) (by kernel_rfl) (congrArg (fun t_65_m10 : Bool => mk [(0, .v false [.mp 0 0 0]), (1, .v false [.own 1 0 0]), (5, .v false [.mp 5 0 0]), (7, iv t_34_l5), (8, .v false [.mp 8 0 0]), (33, iv (s_0.list.length : Int)), (34, iv t_34_l5), (65, bv t_65_m10)] [(0, some ⟨0, 0, true, true, false, true, [⟨.imm, 0, 1, .row 4 (List.map e_S_Bond s_o0_0_l5)⟩, ⟨.imm, 0, 0, .sc (.int .i64 s_o0_1_l5)⟩, ⟨.imm, 0, 0, .sc (.int .i64 s_o0_2_l5)⟩, ⟨.imm, 0, 0, .sc (.bool s_o0_3_l5)⟩, ⟨.sh, 0, 0, .row 1 (List.map eI s_o0_4_l5)⟩, ⟨.imm, 0, 0, .sc (.int .i64 s_o0_5_l5)⟩]⟩), (1, some ⟨0, 0, false, false, false, false, [⟨.sh, 0, 0, .row 1 (List.map eI order_1)⟩]⟩), (5, some ⟨0, 0, false, true, false, true, [⟨.imm, 0, 0, .sc (.int .i64 g_2.ready)⟩, ⟨.imm, 0, 0, .sc (.int .i64 g_2.free.e0)⟩, ⟨.imm, 0, 0, .sc (.int .i64 g_2.free.e1)⟩, ⟨.imm, 0, 0, .sc (.int .i64 g_2.free.e2)⟩, ⟨.imm, 0, 0, .sc (.int .i64 g_2.free.e3)⟩, ⟨.imm, 0, 0, .sc (.int .i64 g_2.end_)⟩]⟩), (8, some ⟨0, 0, false, true, false, true, [⟨.imm, 0, 0, .sc (.int .i64 x52.2.ready)⟩, ⟨.imm, 0, 0, .sc (.int .i64 x52.2.free.e0)⟩, ⟨.imm, 0, 0, .sc (.int .i64 x52.2.free.e1)⟩, ⟨.imm, 0, 0, .sc (.int .i64 x52.2.free.e2)⟩, ⟨.imm, 0, 0, .sc (.int .i64 x52.2.free.e3)⟩, ⟨.imm, 0, 0, .sc (.int .i64 x52.2.end_)⟩]⟩)]) (by first | rfl | (simp [(Iff.rfl.2 hc22)]; done) | (simp [(Iff.rfl.2 hc22)]; omega))))
              · exact sT rfl (dN z138 rfl (oMv rfl rfl)) <| sT rfl (dN z138 rfl (oNl rfl rfl rfl)) <| sT rfl (dN z138 rfl (oFA (r' := .mp 0 0 3) rfl fF214_3 rfl rfl)) <| sT rfl (dN z138 rfl (oLd (cs := [.im 0 _]) rfl tF4 rfl rfl)) <| sT rfl (dN z138 rfl (oMv rfl rfl)) <| sT rfl (dF rfl rfl rfl (byF Iff.rfl hc22) rfl) <| sT rfl (dF rfl rfl rfl (byF Iff.rfl hc22) rfl) <| sT rfl (dF rfl rfl rfl (byF Iff.rfl hc22) rfl) <| sT rfl (dF rfl rfl rfl (byF Iff.rfl hc22) rfl) <| sT rfl (dF rfl rfl rfl (byF Iff.rfl hc22) rfl) <| sT rfl (dF rfl rfl rfl (byF Iff.rfl hc22) rfl) <| sT rfl (dF rfl rfl rfl (byF Iff.rfl hc22) rfl) <| sT rfl (dN z138 rfl (oPkF rfl rfl (byF Iff.rfl hc22) rfl)) <| sD (Eq.trans (b := (fun t_65_m10 : Bool => mk [(0, .v false [.mp 0 0 0]), (1, .v false [.own 1 0 0]), (5, .v false [.mp 5 0 0]), (7, iv t_34_l5), (8, .v false [.mp 8 0 0]), (33, iv (s_0.list.length : Int)), (34, iv t_34_l5), (65, bv t_65_m10)] [(0, some ⟨0, 0, true, true, false, true, [⟨.imm, 0, 1, .row 4 (List.map e_S_Bond s_o0_0_l5)⟩, ⟨.imm, 0, 0, .sc (.int .i64 s_o0_1_l5)⟩, ⟨.imm, 0, 0, .sc (.int .i64 s_o0_2_l5)⟩, ⟨.imm, 0, 0, .sc (.bool s_o0_3_l5)⟩, ⟨.sh, 0, 0, .row 1 (List.map eI s_o0_4_l5)⟩, ⟨.imm, 0, 0, .sc (.int .i64 s_o0_5_l5)⟩]⟩), (1, some ⟨0, 0, false, false, false, false, [⟨.sh, 0, 0, .row 1 (List.map eI order_1)⟩]⟩), (5, some ⟨0, 0, false, true, false, true, [⟨.imm, 0, 0, .sc (.int .i64 g_2.ready)⟩, ⟨.imm, 0, 0, .sc (.int .i64 g_2.free.e0)⟩, ⟨.imm, 0, 0, .sc (.int .i64 g_2.free.e1)⟩, ⟨.imm, 0, 0, .sc (.int .i64 g_2.free.e2)⟩, ⟨.imm, 0, 0, .sc (.int .i64 g_2.free.e3)⟩, ⟨.imm, 0, 0, .sc (.int .i64 g_2.end_)⟩]⟩), (8, some ⟨0, 0, false, true, false, true, [⟨.imm, 0, 0, .sc (.int .i64 x52.2.ready)⟩, ⟨.imm, 0, 0, .sc (.int .i64 x52.2.free.e0)⟩, ⟨.imm, 0, 0, .sc (.int .i64 x52.2.free.e1)⟩, ⟨.imm, 0, 0, .sc (.int .i64 x52.2.free.e2)⟩, ⟨.imm, 0, 0, .sc (.int .i64 x52.2.free.e3)⟩, ⟨.imm, 0, 0, .sc (.int .i64 x52.2.end_)⟩]⟩)]) false) (by kernel_rfl) (congrArg (fun t_65_m10 : Bool => mk [(0, .v false [.mp 0 0 0]), (1, .v false [.own 1 0 0]), (5, .v false [.mp 5 0 0]), (7, iv t_34_l5), (8, .v false [.mp 8 0 0]), (33, iv (s_0.list.length : Int)), (34, iv t_34_l5), (65, bv t_65_m10)] [(0, some ⟨0, 0, true, true, false, true, [⟨.imm, 0, 1, .row 4 (List.map e_S_Bond s_o0_0_l5)⟩, ⟨.imm, 0, 0, .sc (.int .i64 s_o0_1_l5)⟩, ⟨.imm, 0, 0, .sc (.int .i64 s_o0_2_l5)⟩, ⟨.imm, 0, 0, .sc (.bool s_o0_3_l5)⟩, ⟨.sh, 0, 0, .row 1 (List.map eI s_o0_4_l5)⟩, ⟨.imm, 0, 0, .sc (.int .i64 s_o0_5_l5)⟩]⟩), (1, some ⟨0, 0, false, false, false, false, [⟨.sh, 0, 0, .row 1 (List.map eI order_1)⟩]⟩), (5, some ⟨0, 0, false, true, false, true, [⟨.imm, 0, 0, .sc (.int .i64 g_2.ready)⟩, ⟨.imm, 0, 0, .sc (.int .i64 g_2.free.e0)⟩, ⟨.imm, 0, 0, .sc (.int .i64 g_2.free.e1)⟩, ⟨.imm, 0, 0, .sc (.int .i64 g_2.free.e2)⟩, ⟨.imm, 0, 0, .sc (.int .i64 g_2.free.e3)⟩, ⟨.imm, 0, 0, .sc (.int .i64 g_2.end_)⟩]⟩), (8, some ⟨0, 0, false, true, false, true, [⟨.imm, 0, 0, .sc (.int .i64 x52.2.ready)⟩, ⟨.imm, 0, 0, .sc (.int .i64 x52.2.free.e0)⟩, ⟨.imm, 0, 0, .sc (.int .i64 x52.2.free.e1)⟩, ⟨.imm, 0, 0, .sc (.int .i64 x52.2.free.e2)⟩, ⟨.imm, 0, 0, .sc (.int .i64 x52.2.free.e3)⟩, ⟨.imm, 0, 0, .sc (.int .i64 x52.2.end_)⟩]⟩)]) (by first | rfl | (simp [(byF Iff.rfl hc22)]; done) | (simp [(byF Iff.rfl hc22)]; omega))))
            · refine Unw.seq ?_
              by_cases hc23 : (s_o0_3_l5 = true ∧ x52.2.end_ ≥ s_o0_5_l5)
              · rw [if_pos hc23] at h
                refine Go.condT rfl ((iAnd Iff.rfl iDec).2 hc23) ?_
                refine Go.exit ?_
                refine Unw.seqx ?_
                refine Unw.blkx ?_
                exact K20 _ ⟨s_o0_0_l5, s_o0_1_l5, s_o0_2_l5, s_o0_3_l5, s_o0_4_l5, s_o0_5_l5, h, (by kernel_rfl)⟩
              · rw [if_neg hc23] at h
                refine Go.condF rfl (byF (iAnd Iff.rfl iDec) hc23) ?_
                refine Go.skip ?_
                refine Unw.seq ?_
                refine Go.seq ?_
                refine Go.seq ?_
                refine Go.r0 c138 rfl rfl (sq z138 (oMv rfl rfl) <| sq z138 (oNl rfl rfl rfl) <| sq z138 (oFA (r' := .mp 0 0 2) rfl fF214_2 rfl rfl) <| sq z138 (oLd (cs := [.im 0 _]) rfl tF2 rfl rfl) <| sq z138 (oBi rfl rfl rfl rfl) <| nl) ?_
                refine Unw.seq ?_
                by_cases hc24 : s_o0_2_l5 = 0
                · rw [if_pos hc24] at h
                  refine Go.condT rfl (iEq.2 hc24) ?_
                  refine Go.seq ?_
                  refine Go.r0 c138 rfl rfl (sq z138 (oAsI rfl rfl) <| nl) ?_
                  refine Unw.seq ?_
                  refine Go.ret (Unw.ret ?_)
                  cases h
                  exact ⟨rfl, (fin_of rfl rF138 rfl (by kernel_rfl))⟩
                · rw [if_neg hc24] at h
                  refine Go.condF rfl (byF iEq hc24) ?_
                  refine Go.skip ?_
                  refine Unw.seq ?_
                  refine Go.seq ?_
                  refine Go.r0 c138 rfl rfl (sq z138 (oMv rfl rfl) <| sq z138 (oNl rfl rfl rfl) <| sq z138 (oFA (r' := .mp 0 0 2) rfl fF214_2 rfl rfl) <| sq z138 (oLd (cs := [.im 0 _]) rfl tF2 rfl rfl) <| sq z138 (oBi rfl rfl rfl rfl) <| sq z138 (oNl rfl rfl rfl) <| sq z138 (oFA (r' := .mp 0 0 2) rfl fF214_2 rfl rfl) <| sq z138 (oSt tF2 rfl rfl rfl (tkI tk0) rfl rfl rfl) <| nl) ?_
                  refine Unw.seq ?_
                  refine Go.seq ?_
                  obtain ⟨x80, hx80, h⟩ := bs h
                  obtain ⟨x83, hx83, h⟩ := bs h
                  obtain ⟨x85, hx85, h⟩ := bs h
                  refine Go.dr c138 rfl rfl rfl (st1 := mk [(0, .v false [.mp 0 0 0]), (1, .v false [.own 1 0 0]), (5, .v false [.mp 5 0 0]), (7, iv t_34_l5), (8, .v false [.mp 8 0 0]), (33, iv (s_0.list.length : Int)), (34, iv t_34_l5)] [(0, some ⟨0, 0, true, true, false, true, [⟨.imm, 0, 1, .row 4 (List.map e_S_Bond s_o0_0_l5)⟩, ⟨.imm, 0, 0, .sc (.int .i64 s_o0_1_l5)⟩, ⟨.imm, 0, 0, .sc (.int .i64 (w64 (s_o0_2_l5 - 1)))⟩, ⟨.imm, 0, 0, .sc (.bool s_o0_3_l5)⟩, ⟨.sh, 0, 0, .row 1 (List.map eI s_o0_4_l5)⟩, ⟨.imm, 0, 0, .sc (.int .i64 s_o0_5_l5)⟩]⟩), (1, some ⟨0, 0, false, false, false, false, [⟨.sh, 0, 0, .row 1 (List.map eI order_1)⟩]⟩), (5, some ⟨0, 0, false, true, false, true, [⟨.imm, 0, 0, .sc (.int .i64 g_2.ready)⟩, ⟨.imm, 0, 0, .sc (.int .i64 g_2.free.e0)⟩, ⟨.imm, 0, 0, .sc (.int .i64 g_2.free.e1)⟩, ⟨.imm, 0, 0, .sc (.int .i64 g_2.free.e2)⟩, ⟨.imm, 0, 0, .sc (.int .i64 g_2.free.e3)⟩, ⟨.imm, 0, 0, .sc (.int .i64 g_2.end_)⟩]⟩), (8, some ⟨0, 0, false, true, false, true, [⟨.imm, 0, 0, .sc (.int .i64 x52.2.ready)⟩, ⟨.imm, 0, 0, .sc (.int .i64 x52.2.free.e0)⟩, ⟨.imm, 0, 0, .sc (.int .i64 x52.2.free.e1)⟩, ⟨.imm, 0, 0, .sc (.int .i64 x52.2.free.e2)⟩, ⟨.imm, 0, 0, .sc (.int .i64 x52.2.free.e3)⟩, ⟨.imm, 0, 0, .sc (.int .i64 x52.2.end_)⟩]⟩)]) (by kernel_rfl) (mk [(0, .v false [.mp 0 0 0]), (1, .v false [.own 1 0 0]), (5, .v false [.mp 5 0 0]), (33, iv (s_0.list.length : Int)), (34, iv t_34_l5), (85, bv x85.1)] [(0, some ⟨0, 0, true, true, false, true, [⟨.imm, 0, 1, .row 4 (List.map e_S_Bond x85.2.list)⟩, ⟨.imm, 0, 0, .sc (.int .i64 x85.2.presses)⟩, ⟨.imm, 0, 0, .sc (.int .i64 x85.2.left)⟩, ⟨.imm, 0, 0, .sc (.bool x85.2.found)⟩, ⟨.sh, 0, 0, .row 1 (List.map eI x85.2.best)⟩, ⟨.imm, 0, 0, .sc (.int .i64 x85.2.least)⟩]⟩), (1, some ⟨0, 0, false, false, false, false, [⟨.sh, 0, 0, .row 1 (List.map eI order_1)⟩]⟩), (5, some ⟨0, 0, false, true, false, true, [⟨.imm, 0, 0, .sc (.int .i64 g_2.ready)⟩, ⟨.imm, 0, 0, .sc (.int .i64 g_2.free.e0)⟩, ⟨.imm, 0, 0, .sc (.int .i64 g_2.free.e1)⟩, ⟨.imm, 0, 0, .sc (.int .i64 g_2.free.e2)⟩, ⟨.imm, 0, 0, .sc (.int .i64 g_2.free.e3)⟩, ⟨.imm, 0, 0, .sc (.int .i64 g_2.end_)⟩]⟩)]) (sT rfl (dN z138 rfl (oMv rfl rfl)) <| sT rfl (dN z138 rfl (oMv rfl rfl)) <| sT rfl (dN z138 rfl (oMv rfl rfl)) <| sK (O := [8]) rfl rfl rfl (dN z138 rfl (oLd (cs := [.im 0 _, .im 0 _, .im 0 _, .im 0 _, .im 0 _, .im 0 _]) rfl tF218 rfl rfl)) <| sF (dN z138 rfl (oCr (xs := [.v false [.own 1 0 0]]) (vs := [(false, [.own 80 0 0])]) (v := .v false [.own 80 0 0]) (c := ⟨.sh, 0, _⟩) (cs := []) (FL_cloneN (en := eI) (L := order_1) rfl hx80 (fun _ => rfl)) (.inl rfl) rfl kF187_27 rfl (ppC rfl pp0) rfl rfl pb0 rfl rfl rfl)) (kY ⟨rfl, trivial⟩ trivial) (sS (dN z138 rfl (oBS (es := List.map eI ([t_34_l5] : List Int)) rfl sF27 rfl (ptC rfl (fxI fx0) rfl pt0) (flat0 rfl fun _ => rfl))) (kY ⟨rfl, trivial⟩ trivial) (sS (dN z138 rfl (oApO (en := eI) (M := ([t_34_l5] : List Int)) rfl hx83 rfl sF27 rfl rfl uF27 (.inl ⟨_, rfl⟩) rfl rfl rfl rfl (el_own rfl rfl) (flat0 rfl fun _ => rfl))) (kY ⟨rfl, trivial⟩ trivial) (sS (dN z138 rfl (oCa (xs := [.v false [.mp 0 0 0], .v false [.own 83 0 0], .v true [.im 0 _, .im 0 _, .im 0 _, .im 0 _, .im 0 _, .im 0 _]]) (vs := [(false, [.im 0 _])]) (v := .v false [.im 0 _]) (ih hx85) (.inl rfl) rfl kF138_212_27_218 rfl (ppPx (ob' := ⟨0, 0, true, true, false, true, [⟨.imm, 0, 1, .row 4 (List.map e_S_Bond s_o0_0_l5)⟩, ⟨.imm, 0, 0, .sc (.int .i64 s_o0_1_l5)⟩, ⟨.imm, 0, 0, .sc (.int .i64 (w64 (s_o0_2_l5 - 1)))⟩, ⟨.imm, 0, 0, .sc (.bool s_o0_3_l5)⟩, ⟨.sh, 0, 0, .row 1 (List.map eI s_o0_4_l5)⟩, ⟨.imm, 0, 0, .sc (.int .i64 s_o0_5_l5)⟩]⟩) rfl rfl rfl (by kernel_rfl) (ppM (take_own rfl rfl) (ppC rfl pp0))) rfl rfl (pbPx (ob' := ⟨0, 1, true, true, false, true, [⟨.imm, 1, 1, .row 4 (List.map e_S_Bond x85.2.list)⟩, ⟨.imm, 1, 0, .sc (.int .i64 x85.2.presses)⟩, ⟨.imm, 1, 0, .sc (.int .i64 x85.2.left)⟩, ⟨.imm, 1, 0, .sc (.bool x85.2.found)⟩, ⟨.sh, 1, 0, .row 1 (List.map eI x85.2.best)⟩, ⟨.imm, 1, 0, .sc (.int .i64 x85.2.least)⟩]⟩) rfl rfl (by kernel_rfl) pb0) rfl rfl rfl)) (kN rfl trivial) (sD (by kernel_rfl))))) (sS (dN z138 rfl (oBS (es := List.map eI ([t_34_l5] : List Int)) rfl sF27 rfl (ptC rfl (fxI fx0) rfl pt0) (flat0 rfl fun _ => rfl))) (kY ⟨rfl, trivial⟩ trivial) (sS (dN z138 rfl (oCr (xs := [.v false [.own 1 0 0]]) (vs := [(false, [.own 80 0 0])]) (v := .v false [.own 80 0 0]) (c := ⟨.sh, 0, _⟩) (cs := []) (FL_cloneN (en := eI) (L := order_1) rfl hx80 (fun _ => rfl)) (.inl rfl) rfl kF187_27 rfl (ppC rfl pp0) rfl rfl pb0 rfl rfl rfl)) (kY ⟨rfl, trivial⟩ trivial) (sS (dN z138 rfl (oApO (en := eI) (M := ([t_34_l5] : List Int)) rfl hx83 rfl sF27 rfl rfl uF27 (.inl ⟨_, rfl⟩) rfl rfl rfl rfl (el_own rfl rfl) (flat0 rfl fun _ => rfl))) (kY ⟨rfl, trivial⟩ trivial) (sS (dN z138 rfl (oCa (xs := [.v false [.mp 0 0 0], .v false [.own 83 0 0], .v true [.im 0 _, .im 0 _, .im 0 _, .im 0 _, .im 0 _, .im 0 _]]) (vs := [(false, [.im 0 _])]) (v := .v false [.im 0 _]) (ih hx85) (.inl rfl) rfl kF138_212_27_218 rfl (ppPx (ob' := ⟨0, 0, true, true, false, true, [⟨.imm, 0, 1, .row 4 (List.map e_S_Bond s_o0_0_l5)⟩, ⟨.imm, 0, 0, .sc (.int .i64 s_o0_1_l5)⟩, ⟨.imm, 0, 0, .sc (.int .i64 (w64 (s_o0_2_l5 - 1)))⟩, ⟨.imm, 0, 0, .sc (.bool s_o0_3_l5)⟩, ⟨.sh, 0, 0, .row 1 (List.map eI s_o0_4_l5)⟩, ⟨.imm, 0, 0, .sc (.int .i64 s_o0_5_l5)⟩]⟩) rfl rfl rfl (by kernel_rfl) (ppM (take_own rfl rfl) (ppC rfl pp0))) rfl rfl (pbPx (ob' := ⟨0, 1, true, true, false, true, [⟨.imm, 1, 1, .row 4 (List.map e_S_Bond x85.2.list)⟩, ⟨.imm, 1, 0, .sc (.int .i64 x85.2.presses)⟩, ⟨.imm, 1, 0, .sc (.int .i64 x85.2.left)⟩, ⟨.imm, 1, 0, .sc (.bool x85.2.found)⟩, ⟨.sh, 1, 0, .row 1 (List.map eI x85.2.best)⟩, ⟨.imm, 1, 0, .sc (.int .i64 x85.2.least)⟩]⟩) rfl rfl (by kernel_rfl) pb0) rfl rfl rfl)) (kN rfl trivial) (sD (by kernel_rfl))))))) ?_
                  refine Unw.seq ?_
                  by_cases hc25 : x85.1 = true
                  · rw [if_pos hc25] at h
                    refine Go.condT rfl (Iff.rfl.2 hc25) ?_
                    refine Go.seq ?_
                    refine Go.r0 c138 rfl rfl (sq z138 (oAsI rfl rfl) <| nl) ?_
                    refine Unw.seq ?_
                    refine Go.ret (Unw.ret ?_)
                    cases h
                    exact ⟨rfl, (fin_of rfl rF138 rfl (by kernel_rfl))⟩
                  · rw [if_neg hc25] at h
                    refine Go.condF rfl (byF Iff.rfl hc25) ?_
                    refine Go.skip ?_
                    refine Unw.blk ?_
                    exact K20 _ ⟨x85.2.list, x85.2.presses, x85.2.left, x85.2.found, x85.2.best, x85.2.least, h, (by kernel_rfl)⟩
      · rw [if_neg hc14] at h
        refine Go.condF rfl (byF iDec hc14) ?_
        refine Go.exit ?_
        refine Unw.seqx ?_
        refine Unw.nil ?_
        cases h
        exact ⟨rfl, (by kernel_rfl)⟩
    · rintro ⟨e, st⟩ hp
      rcases o with ⟨s_o0_0_e0_5, s_o0_1_e0_5, s_o0_2_e0_5, s_o0_3_e0_5, s_o0_4_e0_5, s_o0_5_e0_5⟩ | r2
      · dsimp only at h
        obtain ⟨he, hst⟩ := hp
        obtain rfl : e = .exit 0 := he
        refine Unw.blkx ?_
        refine Unw.seq ?_
        refine Go.seq ?_
        refine Go.r1 c138 rfl rfl hst (sq z138 (oAsI rfl rfl) <| nl) ?_
        refine Unw.seq ?_
        refine Go.ret (Unw.ret ?_)
        cases h
        exact Fin_ret (fin_of rfl rF138 rfl (by kernel_rfl))
      · dsimp only at h
        obtain ⟨he, hfin⟩ := hp
        obtain rfl : e = .ret := he
        cases h
        exact Unw.ret (Fin_ret hfin)
theorem L_impl_glueSearch_run {s_0 : S_glueSearch} {order_1 : (List Int)} {g_2 : S_gluing} {r : (Bool × S_glueSearch)} (h : impl_glueSearch_run s_0 order_1 g_2 = some r) : FL Try.prog cfg 138 [.ptr true [(.imm, .row 4 (List.map e_S_Bond s_0.list)), (.imm, .sc (.int .i64 s_0.presses)), (.imm, .sc (.int .i64 s_0.left)), (.imm, .sc (.bool s_0.found)), (.sh, .row 1 (List.map eI s_0.best)), (.imm, .sc (.int .i64 s_0.least))], .mv 1 (List.map eI order_1), .im 2 true [.sc (.int .i64 g_2.ready), .sc (.int .i64 g_2.free.e0), .sc (.int .i64 g_2.free.e1), .sc (.int .i64 g_2.free.e2), .sc (.int .i64 g_2.free.e3), .sc (.int .i64 g_2.end_)]] = some ([(false, [.im 0 (.sc (.bool r.1))])], [.ptr true [(.imm, .row 4 (List.map e_S_Bond r.2.list)), (.imm, .sc (.int .i64 r.2.presses)), (.imm, .sc (.int .i64 r.2.left)), (.imm, .sc (.bool r.2.found)), (.sh, .row 1 (List.map eI r.2.best)), (.imm, .sc (.int .i64 r.2.least))]]) := by
  unfold impl_glueSearch_run at h
  obtain ⟨n, hn⟩ := fixO_iter h
  clear h
  induction n generalizing s_0 order_1 g_2 r with
  | zero => cases hn
  | succ n ihn => exact L_impl_glueSearch_run_F (self := iterO _ n) (fun h => ihn h) hn
theorem L_impl_BestGlueOrder {list_0 : (List S_Bond)} {presses_1 : Int} {budget_2 : Int} {r : ((List Int) × Int × Int)} (h : impl_BestGlueOrder list_0 presses_1 budget_2 = some r) : FL Try.prog cfg 56 [.im 2 false [.row 4 (List.map e_S_Bond list_0)], .im 2 false [.sc (.int .i64 presses_1)], .im 2 false [.sc (.int .i64 budget_2)]] = some ([(false, [.ow 0 1 (List.map eI r.1)]), (false, [.im 0 (.sc (.int .i64 r.2.1))]), (false, [.im 0 (.sc (.int .i64 r.2.2))])], []) := by
  unfold impl_BestGlueOrder at h
  refine FL_goS (A := [(0, .v false [.im 2 (.row 4 (List.map e_S_Bond list_0))]), (1, .v false [.im 2 (.sc (.int .i64 presses_1))]), (2, .v false [.im 2 (.sc (.int .i64 budget_2))])]) (B := [(0, none), (1, none), (2, none)]) (nt := 40) rfl rfl Try.func56 rfl rfl rfl rfl ?_
  refine Go.seq ?_
  refine Go.r0 c56 rfl rfl (sq z56 (oAsN rfl rfl eF27) <| sq z56 (oAsI rfl rfl) <| sq z56 (oAsI rfl rfl) <| nl) ?_
  refine Unw.seq ?_
  refine Go.seq ?_
  obtain ⟨x13, hx13, h⟩ := bs h
  refine Go.r0 c56 rfl rfl (sq z56 (oMv rfl rfl) <| sq z56 (oMv rfl rfl) <| sq z56 (oCa (xs := [.v false [.im 2 _], .v false [.im 2 _]]) (vs := [(false, [.im 0 _])]) (v := .v false [.im 0 _]) (L_impl_pressCode hx13) (.inl rfl) rfl kF137_81_2 rfl (ppC rfl (ppC rfl pp0)) rfl rfl pb0 rfl rfl rfl) <| sq z56 (oAsI rfl rfl) <| nl) ?_
  refine Unw.seq ?_
  refine Go.seq ?_
  refine Go.seq ?_
  obtain ⟨t_20_m2, hm7, h⟩ := bs h
  refine Go.rX c56 rfl rfl rfl (mk [(0, .v false [.im 2 (.row 4 (List.map e_S_Bond list_0))]), (1, iv presses_1), (2, iv budget_2), (9, iv x13), (20, bv t_20_m2)] []) ?_ ?_
  · by_cases hc1 : x13 = 0
    · rw [if_pos hc1] at hm7
      obtain ⟨x18, hx18, hm7⟩ := bs hm7
      cases hm7
      exact ⟨_, sq z56 (oMv rfl rfl) <| sq z56 (oBi rfl rfl rfl rfl) <| sq z56 (oMv rfl rfl) <| sgT z56 rfl rfl (iEq.2 hc1) (oMv rfl rfl) <| sgT z56 rfl rfl (iEq.2 hc1) (oCa (xs := [.v false [.im 2 _], .v false [.im 0 _], .v false [.im 0 _]]) (vs := [(false, [.im 0 _])]) (v := .v false [.im 0 _]) (L_impl_within hx18) (.inl rfl) rfl kF92_2_2_2 rfl (ppC rfl (ppC rfl (ppC rfl pp0))) rfl rfl pb0 rfl rfl rfl) <| sgT z56 rfl rfl (iEq.2 hc1) (oUn rfl rfl rfl) <| sq z56 (oPkT rfl rfl (iEq.2 hc1) rfl) <| nl, (by kernel_rfl)⟩
    · rw [if_neg hc1] at hm7
      cases hm7
      exact ⟨_, sq z56 (oMv rfl rfl) <| sq z56 (oBi rfl rfl rfl rfl) <| sq z56 (oMv rfl rfl) <| sgF rfl rfl (byF iEq hc1) rfl <| sgF rfl rfl (byF iEq hc1) rfl <| sgF rfl rfl (byF iEq hc1) rfl <| sq z56 (oPkF rfl rfl (byF iEq hc1) rfl) <| nl, (by kernel_rfl)⟩
  · refine Unw.seq ?_
    refine Go.join (fun st => ∃ code_9_r4, impl_BestGlueOrder_k4 budget_2 list_0 presses_1 code_9_r4 = some r ∧ st.norm ([0, 1, 2, 9], []) = mk [(0, .v false [.im 2 (.row 4 (List.map e_S_Bond list_0))]), (1, iv presses_1), (2, iv budget_2), (9, iv code_9_r4)] []) ?_ ?_
    · rintro st ⟨code_9_r4, h, hst⟩
      unfold impl_BestGlueOrder_k4 at h
      refine Unw.seq ?_
      refine Go.seq ?_
      refine Go.seq ?_
      refine Go.r1 c56 rfl rfl hst (sq z56 (oMv rfl rfl) <| sq z56 (oBi rfl rfl rfl rfl) <| nl) ?_
      refine Unw.seq ?_
      by_cases hc3 : code_9_r4 ≠ 0
      · rw [if_pos hc3] at h
        refine Go.condT rfl (iNe.2 hc3) ?_
        refine Go.seq ?_
        refine Go.r0 c56 rfl rfl (sq z56 (oMv rfl rfl) <| sq z56 (oAsN rfl rfl eF27) <| sq z56 (oAsI rfl rfl) <| sq z56 (oAsI rfl rfl) <| nl) ?_
        refine Unw.seq ?_
        refine Go.ret (Unw.ret ?_)
        cases h
        exact Fin_ret (fin_of rfl rF56 rfl (by kernel_rfl))
      · rw [if_neg hc3] at h
        refine Go.condF rfl (byF iNe hc3) ?_
        refine Go.skip ?_
        refine Unw.seq ?_
        refine Go.seq ?_
        refine Go.r0 c56 rfl rfl (sq z56 (oMv rfl rfl) <| sq z56 (oMv rfl rfl) <| sq z56 (oMv rfl rfl) <| sq z56 (oBu (cs := [.im 2 _, .im 0 _, .im 0 _, .im 0 _, .nil, .im 0 _]) rfl bF214 rfl) <| sq z56 (oBx rfl tF214 rfl (tkI (tkI (tkI (tkI (tkN (tkI tk0))))))) <| sq z56 (oAsP rfl rfl) <| nl) ?_
        refine Unw.seq ?_
        refine Go.seq ?_
        refine Go.seq ?_
        obtain ⟨x31, hx31, h⟩ := bs h
        refine Go.r1 c56 rfl rfl (st1 := mk [(10, .v false [.mp 28 0 0])] [(28, some ⟨0, 0, false, true, false, true, [⟨.imm, 0, 2, .row 4 (List.map e_S_Bond list_0)⟩, ⟨.imm, 0, 0, .sc (.int .i64 presses_1)⟩, ⟨.imm, 0, 0, .sc (.int .i64 budget_2)⟩, ⟨.imm, 0, 0, .sc (.bool false)⟩, ⟨.sh, 0, 0, .row 1 (List.map eI ([] : List Int))⟩, ⟨.imm, 0, 0, .sc (.int .i64 0)⟩]⟩)]) (by kernel_rfl) (sq z56 (oMv rfl rfl) <| sq z56 (oBu (cs := [.im 0 _, .im 0 _, .im 0 _, .im 0 _, .im 0 _, .im 0 _]) rfl bF218 rfl) <| sq z56 (oCa (xs := [.v false [.mp 28 0 0], .v false [.nil], .v true [.im 0 _, .im 0 _, .im 0 _, .im 0 _, .im 0 _, .im 0 _]]) (vs := [(false, [.im 0 _])]) (v := .v false [.im 0 _]) (L_impl_glueSearch_run hx31) (.inl rfl) rfl kF138_212_27_218 rfl (ppPx (ob' := ⟨0, 0, false, true, false, true, [⟨.imm, 0, 2, .row 4 (List.map e_S_Bond list_0)⟩, ⟨.imm, 0, 0, .sc (.int .i64 presses_1)⟩, ⟨.imm, 0, 0, .sc (.int .i64 budget_2)⟩, ⟨.imm, 0, 0, .sc (.bool false)⟩, ⟨.sh, 0, 0, .row 1 (List.map eI ([] : List Int))⟩, ⟨.imm, 0, 0, .sc (.int .i64 0)⟩]⟩) rfl rfl rfl (by kernel_rfl) (ppM take_nil (ppC rfl pp0))) rfl rfl (pbPx (ob' := ⟨0, 1, false, true, false, true, [⟨.imm, 1, 2, .row 4 (List.map e_S_Bond x31.2.list)⟩, ⟨.imm, 1, 0, .sc (.int .i64 x31.2.presses)⟩, ⟨.imm, 1, 0, .sc (.int .i64 x31.2.left)⟩, ⟨.imm, 1, 0, .sc (.bool x31.2.found)⟩, ⟨.sh, 1, 0, .row 1 (List.map eI x31.2.best)⟩, ⟨.imm, 1, 0, .sc (.int .i64 x31.2.least)⟩]⟩) rfl rfl (by kernel_rfl) pb0) rfl rfl rfl) <| nl) ?_
        refine Unw.seq ?_
        by_cases hc4 : x31.1 = true
        · rw [if_pos hc4] at h
          refine Go.condT rfl (Iff.rfl.2 hc4) ?_
          refine Go.seq ?_
          refine Go.r1 c56 rfl rfl (st1 := mk [] []) (by kernel_rfl) (sq z56 (oAsN rfl rfl eF27) <| sq z56 (oAsI rfl rfl) <| sq z56 (oAsI rfl rfl) <| nl) ?_
          refine Unw.seq ?_
          refine Go.ret (Unw.ret ?_)
          cases h
          exact Fin_ret (fin_of rfl rF56 rfl (by kernel_rfl))
        · rw [if_neg hc4] at h
          refine Go.condF rfl (byF Iff.rfl hc4) ?_
          refine Go.skip ?_
          refine Unw.seq ?_
          refine Go.seq ?_
          refine Go.dr c56 rfl rfl rfl (st1 := mk [(10, .v false [.mp 28 0 0])] [(28, some ⟨0, 0, false, true, false, true, [⟨.imm, 0, 2, .row 4 (List.map e_S_Bond x31.2.list)⟩, ⟨.imm, 0, 0, .sc (.int .i64 x31.2.presses)⟩, ⟨.imm, 0, 0, .sc (.int .i64 x31.2.left)⟩, ⟨.imm, 0, 0, .sc (.bool x31.2.found)⟩, ⟨.sh, 0, 0, .row 1 (List.map eI x31.2.best)⟩, ⟨.imm, 0, 0, .sc (.int .i64 x31.2.least)⟩]⟩)]) (by kernel_rfl) (mk [(6, .v false [.own 6 0 0]), (7, iv x31.2.least), (8, iv 0)] [(6, some ⟨0, 0, false, false, false, false, [⟨.sh, 0, 0, .row 1 (List.map eI x31.2.best)⟩]⟩)]) (sT rfl (dN z56 rfl (oMv rfl rfl)) <| sT rfl (dN z56 rfl (oNl rfl rfl rfl)) <| sT rfl (dN z56 rfl (oFA (r' := .mp 28 0 4) rfl fF214_4 rfl rfl)) <| sT rfl (dN z56 rfl (oLd (cs := [.own 28 0 4]) rfl tF27 rfl rfl)) <| sT rfl (dN z56 rfl (oMv rfl rfl)) <| sF (dN z56 rfl (oNl rfl rfl rfl)) trivial (sF (dN z56 rfl (oFA (r' := .mp 28 0 5) rfl fF214_5 rfl rfl)) trivial (sF (dN z56 rfl (oLd (cs := [.im 0 _]) rfl tF2 rfl rfl)) trivial (sS (dN z56 rfl (oAsO rfl rfl rfl rfl rfl)) trivial (sS (dN z56 rfl (oAsI rfl rfl)) trivial (sS (dN z56 rfl (oAsI rfl rfl)) trivial (sD (by kernel_rfl))))) (sS (dN z56 rfl (oAsO rfl rfl rfl rfl rfl)) trivial (sT rfl (dN z56 rfl (oLd (cs := [.im 0 _]) rfl tF2 rfl rfl)) <| sS (dN z56 rfl (oAsI rfl rfl)) trivial (sS (dN z56 rfl (oAsI rfl rfl)) trivial (sD (by kernel_rfl)))))) (sS (dN z56 rfl (oAsO rfl rfl rfl rfl rfl)) trivial (sT rfl (dN z56 rfl (oFA (r' := .mp 28 0 5) rfl fF214_5 rfl rfl)) <| sT rfl (dN z56 rfl (oLd (cs := [.im 0 _]) rfl tF2 rfl rfl)) <| sS (dN z56 rfl (oAsI rfl rfl)) trivial (sS (dN z56 rfl (oAsI rfl rfl)) trivial (sD (by kernel_rfl)))))) (sS (dN z56 rfl (oAsO rfl rfl rfl rfl rfl)) trivial (sT rfl (dN z56 rfl (oNl rfl rfl rfl)) <| sT rfl (dN z56 rfl (oFA (r' := .mp 28 0 5) rfl fF214_5 rfl rfl)) <| sT rfl (dN z56 rfl (oLd (cs := [.im 0 _]) rfl tF2 rfl rfl)) <| sS (dN z56 rfl (oAsI rfl rfl)) trivial (sS (dN z56 rfl (oAsI rfl rfl)) trivial (sD (by kernel_rfl)))))) ?_
          refine Unw.seq ?_
          refine Go.ret (Unw.ret ?_)
          cases h
          exact Fin_ret (fin_of rfl rF56 rfl (by kernel_rfl))
    · intro K5
      by_cases hc6 : t_20_m2 = true
      · rw [if_pos hc6] at h
        refine Go.condT rfl (Iff.rfl.2 hc6) ?_
        refine Go.r0 c56 rfl rfl (sq z56 (oAsI rfl rfl) <| nl) ?_
        exact K5 _ ⟨2, h, (by kernel_rfl)⟩
      · rw [if_neg hc6] at h
        refine Go.condF rfl (byF Iff.rfl hc6) ?_
        refine Go.skip ?_
        exact K5 _ ⟨x13, h, (by kernel_rfl)⟩
theorem L_laws_eqInt64S {a_0 : (List Int)} {b_1 : (List Int)} {r : Bool} (h : laws_eqInt64S a_0 b_1 = some r) : FL Try.prog cfg 27 [.im 2 false [.row 1 (List.map eI a_0)], .im 2 false [.row 1 (List.map eI b_1)]] = some ([(false, [.im 0 (.sc (.bool r))])], []) := by
  unfold laws_eqInt64S at h
  refine FL_goS (A := [(0, .v false [.im 2 (.row 1 (List.map eI a_0))]), (1, .v false [.im 2 (.row 1 (List.map eI b_1))])]) (B := [(0, none), (1, none)]) (nt := 26) rfl rfl Try.func27 rfl rfl rfl rfl ?_
  refine Go.seq ?_
  refine Go.r0 c27 rfl rfl (sq z27 (oAsI rfl rfl) <| nl) ?_
  refine Unw.seq ?_
  refine Go.seq ?_
  refine Go.seq ?_
  refine Go.r0 c27 rfl rfl (sq z27 (oMv rfl rfl) <| sq z27 (oLnI rfl rfl uF27 rfl) <| sq z27 (oMv rfl rfl) <| sq z27 (oLnI rfl rfl uF27 rfl) <| sq z27 (oBi rfl rfl rfl rfl) <| nl) ?_
  refine Unw.seq ?_
  by_cases hc1 : (a_0.length : Int) ≠ (b_1.length : Int)
  · rw [if_pos hc1] at h
    refine Go.condT rfl (iNe.2 hc1) ?_
    refine Go.seq ?_
    refine Go.r0 c27 rfl rfl (sq z27 (oAsI rfl rfl) <| nl) ?_
    refine Unw.seq ?_
    refine Go.ret (Unw.ret ?_)
    cases h
    exact Fin_ret (fin_of rfl rF27 rfl (by kernel_rfl))
  · rw [if_neg hc1] at h
    refine Go.condF rfl (byF iNe hc1) ?_
    refine Go.skip ?_
    refine Unw.seq ?_
    refine Go.seq ?_
    refine Go.seq ?_
    refine Go.r0 c27 rfl rfl (sq z27 (oAsI rfl rfl) <| nl) ?_
    refine Unw.seq ?_
    refine Go.block ?_
    obtain ⟨o, hl, h⟩ := bs h
    refine Go.lp c27 rfl _ (fun (i_5_l4 : Int) => mk [(0, .v false [.im 2 (.row 1 (List.map eI a_0))]), (1, .v false [.im 2 (.row 1 (List.map eI b_1))]), (5, iv i_5_l4)] []) (fun (o : (Unit ⊕ Bool)) (p : Ex × St) => match o with | (.inl _) => p.1 = .exit 0 ∧ p.2.norm ([], []) = mk [] [] | (.inr r2) => p.1 = .ret ∧ fin Try.prog cfg 27 Try.f27 [.im 2 false [.row 1 (List.map eI a_0)], .im 2 false [.row 1 (List.map eI b_1)]] p.2 = some ([(false, [.im 0 (.sc (.bool r2))])], [])) hl (by kernel_rfl) ?_ ?_ ?_
    · intro o p hp e
      rcases o with u | r2 <;> exact nomatch (hp.1.symm.trans e)
    · rintro i_5_l4 o h
      unfold laws_eqInt64S_l4 at h
      refine Go.seq ?_
      refine Go.seq ?_
      refine Go.r0 c27 rfl rfl (sq z27 (oMv rfl rfl) <| sq z27 (oMv rfl rfl) <| sq z27 (oLnI rfl rfl uF27 rfl) <| sq z27 (oBi rfl rfl rfl rfl) <| nl) ?_
      refine Unw.seq ?_
      by_cases hc6 : i_5_l4 < (a_0.length : Int)
      · rw [if_pos hc6] at h
        refine Go.condT rfl (iDec.2 hc6) ?_
        refine Go.skip ?_
        refine Unw.seq ?_
        refine Go.seq ?_
        refine Go.block ?_
        refine Go.seq ?_
        obtain ⟨x19, hx19, h⟩ := bs h
        obtain ⟨x23, hx23, h⟩ := bs h
        refine Go.dr c27 rfl rfl rfl rfl (mk [(0, .v false [.im 2 (.row 1 (List.map eI a_0))]), (1, .v false [.im 2 (.row 1 (List.map eI b_1))]), (5, iv i_5_l4), (25, bv (x19 != x23))] []) (sT rfl (dN z27 rfl (oMv rfl rfl)) <| sT rfl (dN z27 rfl (oMv rfl rfl)) <| sT rfl (dN z27 rfl (oIAI rfl hx19 sF27 rfl rfl)) <| sT rfl (dN z27 rfl (oLd (cs := [.im 2 _]) rfl tF2 rfl rfl)) <| sT rfl (dN z27 rfl (oMv rfl rfl)) <| sT rfl (dN z27 rfl (oMv rfl rfl)) <| sT rfl (dN z27 rfl (oIAI rfl hx23 sF27 rfl rfl)) <| sT rfl (dN z27 rfl (oLd (cs := [.im 2 _]) rfl tF2 rfl rfl)) <| sT rfl (dN z27 rfl (oBi rfl rfl rfl rfl)) <| sD (by kernel_rfl)) ?_
        refine Unw.seq ?_
        by_cases hc7 : x19 ≠ x23
        · rw [if_pos hc7] at h
          refine Go.condT rfl (iNe.2 hc7) ?_
          refine Go.seq ?_
          refine Go.r0 c27 rfl rfl (sq z27 (oAsI rfl rfl) <| nl) ?_
          refine Unw.seq ?_
          refine Go.ret (Unw.ret ?_)
          cases h
          exact ⟨rfl, (fin_of rfl rF27 rfl (by kernel_rfl))⟩
        · rw [if_neg hc7] at h
          refine Go.condF rfl (byF iNe hc7) ?_
          refine Go.skip ?_
          refine Unw.blk ?_
          refine Unw.seq ?_
          refine Go.r0 c27 rfl rfl (sq z27 (oMv rfl rfl) <| sq z27 (oBi rfl rfl rfl rfl) <| sq z27 (oAsI rfl rfl) <| nl) ?_
          refine Unw.nil ?_
          cases h
          exact ⟨rfl, (by kernel_rfl)⟩
      · rw [if_neg hc6] at h
        refine Go.condF rfl (byF iDec hc6) ?_
        refine Go.exit ?_
        refine Unw.seqx ?_
        refine Unw.nil ?_
        cases h
        exact ⟨rfl, (by kernel_rfl)⟩
    · rintro ⟨e, st⟩ hp
      rcases o with u | r2
      · dsimp only at h
        obtain ⟨he, hst⟩ := hp
        obtain rfl : e = .exit 0 := he
        refine Unw.blkx ?_
        refine Unw.seq ?_
        refine Go.seq ?_
        refine Go.r1 c27 rfl rfl hst (sq z27 (oAsI rfl rfl) <| nl) ?_
        refine Unw.seq ?_
        refine Go.ret (Unw.ret ?_)
        cases h
        exact Fin_ret (fin_of rfl rF27 rfl (by kernel_rfl))
      · dsimp only at h
        obtain ⟨he, hfin⟩ := hp
        obtain rfl : e = .ret := he
        cases h
        exact Unw.ret (Fin_ret hfin)
theorem L_laws_eqBond {a_0 : S_Bond} {b_1 : S_Bond} {r : Bool} (h : laws_eqBond a_0 b_1 = some r) : FL Try.prog cfg 139 [.im 2 true [.sc (.string a_0.Name), .sc (.int .i64 a_0.Spread), .sc (.int .i64 a_0.Open), .sc (.int .i64 a_0.Press)], .im 2 true [.sc (.string b_1.Name), .sc (.int .i64 b_1.Spread), .sc (.int .i64 b_1.Open), .sc (.int .i64 b_1.Press)]] = some ([(false, [.im 0 (.sc (.bool r))])], []) := by
  unfold laws_eqBond at h
  refine FL_goS (A := [(0, .v true [.im 2 (.sc (.string a_0.Name)), .im 2 (.sc (.int .i64 a_0.Spread)), .im 2 (.sc (.int .i64 a_0.Open)), .im 2 (.sc (.int .i64 a_0.Press))]), (1, .v true [.im 2 (.sc (.string b_1.Name)), .im 2 (.sc (.int .i64 b_1.Spread)), .im 2 (.sc (.int .i64 b_1.Open)), .im 2 (.sc (.int .i64 b_1.Press))])]) (B := [(0, none), (1, none)]) (nt := 25) rfl rfl Try.func139 rfl rfl rfl rfl ?_
  refine Go.seq ?_
  refine Go.r0 c139 rfl rfl (sq z139 (oBx rfl tF209 rfl (tkI (tkI (tkI (tkI tk0))))) <| sq z139 (oBx rfl tF209 rfl (tkI (tkI (tkI (tkI tk0))))) <| sq z139 (oAsI rfl rfl) <| nl) ?_
  refine Unw.seq ?_
  refine Go.seq ?_
  refine Go.seq ?_
  refine Go.r0 c139 rfl rfl (sq z139 (oFA (r' := .mp 2 0 0) rfl fF209_0 rfl rfl) <| sq z139 (oLd (cs := [.im 0 _]) rfl tF9 rfl rfl) <| sq z139 (oFA (r' := .mp 3 0 0) rfl fF209_0 rfl rfl) <| sq z139 (oLd (cs := [.im 0 _]) rfl tF9 rfl rfl) <| sq z139 (oBi rfl rfl rfl rfl) <| nl) ?_
  refine Unw.seq ?_
  by_cases hc1 : ¬ (a_0.Name = b_1.Name)
  · rw [if_pos hc1] at h
    refine Go.condT rfl ((iNot iStr).2 hc1) ?_
    refine Go.seq ?_
    refine Go.r0 c139 rfl rfl (sq z139 (oAsI rfl rfl) <| nl) ?_
    refine Unw.seq ?_
    refine Go.ret (Unw.ret ?_)
    cases h
    exact Fin_ret (fin_of rfl rF139 rfl (by kernel_rfl))
  · rw [if_neg hc1] at h
    refine Go.condF rfl (byF (iNot iStr) hc1) ?_
    refine Go.skip ?_
    refine Unw.seq ?_
    refine Go.seq ?_
    refine Go.seq ?_
    refine Go.r0 c139 rfl rfl (sq z139 (oFA (r' := .mp 2 0 1) rfl fF209_1 rfl rfl) <| sq z139 (oLd (cs := [.im 0 _]) rfl tF2 rfl rfl) <| sq z139 (oFA (r' := .mp 3 0 1) rfl fF209_1 rfl rfl) <| sq z139 (oLd (cs := [.im 0 _]) rfl tF2 rfl rfl) <| sq z139 (oBi rfl rfl rfl rfl) <| nl) ?_
    refine Unw.seq ?_
    by_cases hc2 : a_0.Spread ≠ b_1.Spread
    · rw [if_pos hc2] at h
      refine Go.condT rfl (iNe.2 hc2) ?_
      refine Go.seq ?_
      refine Go.r0 c139 rfl rfl (sq z139 (oAsI rfl rfl) <| nl) ?_
      refine Unw.seq ?_
      refine Go.ret (Unw.ret ?_)
      cases h
      exact Fin_ret (fin_of rfl rF139 rfl (by kernel_rfl))
    · rw [if_neg hc2] at h
      refine Go.condF rfl (byF iNe hc2) ?_
      refine Go.skip ?_
      refine Unw.seq ?_
      refine Go.seq ?_
      refine Go.seq ?_
      refine Go.r0 c139 rfl rfl (sq z139 (oFA (r' := .mp 2 0 2) rfl fF209_2 rfl rfl) <| sq z139 (oLd (cs := [.im 0 _]) rfl tF2 rfl rfl) <| sq z139 (oFA (r' := .mp 3 0 2) rfl fF209_2 rfl rfl) <| sq z139 (oLd (cs := [.im 0 _]) rfl tF2 rfl rfl) <| sq z139 (oBi rfl rfl rfl rfl) <| nl) ?_
      refine Unw.seq ?_
      by_cases hc3 : a_0.Open ≠ b_1.Open
      · rw [if_pos hc3] at h
        refine Go.condT rfl (iNe.2 hc3) ?_
        refine Go.seq ?_
        refine Go.r0 c139 rfl rfl (sq z139 (oAsI rfl rfl) <| nl) ?_
        refine Unw.seq ?_
        refine Go.ret (Unw.ret ?_)
        cases h
        exact Fin_ret (fin_of rfl rF139 rfl (by kernel_rfl))
      · rw [if_neg hc3] at h
        refine Go.condF rfl (byF iNe hc3) ?_
        refine Go.skip ?_
        refine Unw.seq ?_
        refine Go.seq ?_
        refine Go.seq ?_
        refine Go.r0 c139 rfl rfl (sq z139 (oFA (r' := .mp 2 0 3) rfl fF209_3 rfl rfl) <| sq z139 (oLd (cs := [.im 0 _]) rfl tF2 rfl rfl) <| sq z139 (oFA (r' := .mp 3 0 3) rfl fF209_3 rfl rfl) <| sq z139 (oLd (cs := [.im 0 _]) rfl tF2 rfl rfl) <| sq z139 (oBi rfl rfl rfl rfl) <| nl) ?_
        refine Unw.seq ?_
        by_cases hc4 : a_0.Press ≠ b_1.Press
        · rw [if_pos hc4] at h
          refine Go.condT rfl (iNe.2 hc4) ?_
          refine Go.seq ?_
          refine Go.r0 c139 rfl rfl (sq z139 (oAsI rfl rfl) <| nl) ?_
          refine Unw.seq ?_
          refine Go.ret (Unw.ret ?_)
          cases h
          exact Fin_ret (fin_of rfl rF139 rfl (by kernel_rfl))
        · rw [if_neg hc4] at h
          refine Go.condF rfl (byF iNe hc4) ?_
          refine Go.skip ?_
          refine Unw.seq ?_
          refine Go.seq ?_
          refine Go.r0 c139 rfl rfl (sq z139 (oAsI rfl rfl) <| nl) ?_
          refine Unw.seq ?_
          refine Go.ret (Unw.ret ?_)
          cases h
          exact Fin_ret (fin_of rfl rF139 rfl (by kernel_rfl))
theorem L_laws_eqBondS {a_0 : (List S_Bond)} {b_1 : (List S_Bond)} {r : Bool} (h : laws_eqBondS a_0 b_1 = some r) : FL Try.prog cfg 57 [.im 2 false [.row 4 (List.map e_S_Bond a_0)], .im 2 false [.row 4 (List.map e_S_Bond b_1)]] = some ([(false, [.im 0 (.sc (.bool r))])], []) := by
  unfold laws_eqBondS at h
  refine FL_goS (A := [(0, .v false [.im 2 (.row 4 (List.map e_S_Bond a_0))]), (1, .v false [.im 2 (.row 4 (List.map e_S_Bond b_1))])]) (B := [(0, none), (1, none)]) (nt := 27) rfl rfl Try.func57 rfl rfl rfl rfl ?_
  refine Go.seq ?_
  refine Go.r0 c57 rfl rfl (sq z57 (oAsI rfl rfl) <| nl) ?_
  refine Unw.seq ?_
  refine Go.seq ?_
  refine Go.seq ?_
  refine Go.r0 c57 rfl rfl (sq z57 (oMv rfl rfl) <| sq z57 (oLnI rfl rfl uF81 rfl) <| sq z57 (oMv rfl rfl) <| sq z57 (oLnI rfl rfl uF81 rfl) <| sq z57 (oBi rfl rfl rfl rfl) <| nl) ?_
  refine Unw.seq ?_
  by_cases hc1 : (a_0.length : Int) ≠ (b_1.length : Int)
  · rw [if_pos hc1] at h
    refine Go.condT rfl (iNe.2 hc1) ?_
    refine Go.seq ?_
    refine Go.r0 c57 rfl rfl (sq z57 (oAsI rfl rfl) <| nl) ?_
    refine Unw.seq ?_
    refine Go.ret (Unw.ret ?_)
    cases h
    exact Fin_ret (fin_of rfl rF57 rfl (by kernel_rfl))
  · rw [if_neg hc1] at h
    refine Go.condF rfl (byF iNe hc1) ?_
    refine Go.skip ?_
    refine Unw.seq ?_
    refine Go.seq ?_
    refine Go.seq ?_
    refine Go.r0 c57 rfl rfl (sq z57 (oAsI rfl rfl) <| nl) ?_
    refine Unw.seq ?_
    refine Go.block ?_
    obtain ⟨o, hl, h⟩ := bs h
    refine Go.lp c57 rfl _ (fun (i_5_l4 : Int) => mk [(0, .v false [.im 2 (.row 4 (List.map e_S_Bond a_0))]), (1, .v false [.im 2 (.row 4 (List.map e_S_Bond b_1))]), (5, iv i_5_l4)] []) (fun (o : (Unit ⊕ Bool)) (p : Ex × St) => match o with | (.inl _) => p.1 = .exit 0 ∧ p.2.norm ([], []) = mk [] [] | (.inr r2) => p.1 = .ret ∧ fin Try.prog cfg 57 Try.f57 [.im 2 false [.row 4 (List.map e_S_Bond a_0)], .im 2 false [.row 4 (List.map e_S_Bond b_1)]] p.2 = some ([(false, [.im 0 (.sc (.bool r2))])], [])) hl (by kernel_rfl) ?_ ?_ ?_
    · intro o p hp e
      rcases o with u | r2 <;> exact nomatch (hp.1.symm.trans e)
    · rintro i_5_l4 o h
      unfold laws_eqBondS_l4 at h
      refine Go.seq ?_
      refine Go.seq ?_
      refine Go.r0 c57 rfl rfl (sq z57 (oMv rfl rfl) <| sq z57 (oMv rfl rfl) <| sq z57 (oLnI rfl rfl uF81 rfl) <| sq z57 (oBi rfl rfl rfl rfl) <| nl) ?_
      refine Unw.seq ?_
      by_cases hc6 : i_5_l4 < (a_0.length : Int)
      · rw [if_pos hc6] at h
        refine Go.condT rfl (iDec.2 hc6) ?_
        refine Go.skip ?_
        refine Unw.seq ?_
        refine Go.seq ?_
        refine Go.block ?_
        refine Go.seq ?_
        obtain ⟨x19, hx19, h⟩ := bs h
        obtain ⟨x23, hx23, h⟩ := bs h
        obtain ⟨x25, hx25, h⟩ := bs h
        refine Go.dr c57 rfl rfl rfl rfl (mk [(0, .v false [.im 2 (.row 4 (List.map e_S_Bond a_0))]), (1, .v false [.im 2 (.row 4 (List.map e_S_Bond b_1))]), (5, iv i_5_l4), (26, bv (!x25))] []) (sT rfl (dN z57 rfl (oMv rfl rfl)) <| sT rfl (dN z57 rfl (oMv rfl rfl)) <| sT rfl (dN z57 rfl (oIAI rfl hx19 sF81 rfl rfl)) <| sT rfl (dN z57 rfl (oLd (cs := [.im 2 _, .im 2 _, .im 2 _, .im 2 _]) rfl tF209 rfl rfl)) <| sT rfl (dN z57 rfl (oMv rfl rfl)) <| sT rfl (dN z57 rfl (oMv rfl rfl)) <| sT rfl (dN z57 rfl (oIAI rfl hx23 sF81 rfl rfl)) <| sT rfl (dN z57 rfl (oLd (cs := [.im 2 _, .im 2 _, .im 2 _, .im 2 _]) rfl tF209 rfl rfl)) <| sS (dN z57 rfl (oCa (xs := [.v true [.im 2 _, .im 2 _, .im 2 _, .im 2 _], .v true [.im 2 _, .im 2 _, .im 2 _, .im 2 _]]) (vs := [(false, [.im 0 _])]) (v := .v false [.im 0 _]) (L_laws_eqBond hx25) (.inl rfl) rfl kF139_209_209 rfl (ppC rfl (ppC rfl pp0)) rfl rfl pb0 rfl rfl rfl)) trivial (sT rfl (dN z57 rfl (oUn rfl rfl rfl)) <| sD (by kernel_rfl))) ?_
        refine Unw.seq ?_
        by_cases hc7 : x25 = true
        · rw [if_pos hc7] at h
          refine Go.condF rfl (nF (Iff.rfl.2 hc7)) ?_
          refine Go.skip ?_
          refine Unw.blk ?_
          refine Unw.seq ?_
          refine Go.r0 c57 rfl rfl (sq z57 (oMv rfl rfl) <| sq z57 (oBi rfl rfl rfl rfl) <| sq z57 (oAsI rfl rfl) <| nl) ?_
          refine Unw.nil ?_
          cases h
          exact ⟨rfl, (by kernel_rfl)⟩
        · rw [if_neg hc7] at h
          refine Go.condT rfl (nT (byF Iff.rfl hc7)) ?_
          refine Go.seq ?_
          refine Go.r0 c57 rfl rfl (sq z57 (oAsI rfl rfl) <| nl) ?_
          refine Unw.seq ?_
          refine Go.ret (Unw.ret ?_)
          cases h
          exact ⟨rfl, (fin_of rfl rF57 rfl (by kernel_rfl))⟩
      · rw [if_neg hc6] at h
        refine Go.condF rfl (byF iDec hc6) ?_
        refine Go.exit ?_
        refine Unw.seqx ?_
        refine Unw.nil ?_
        cases h
        exact ⟨rfl, (by kernel_rfl)⟩
    · rintro ⟨e, st⟩ hp
      rcases o with u | r2
      · dsimp only at h
        obtain ⟨he, hst⟩ := hp
        obtain rfl : e = .exit 0 := he
        refine Unw.blkx ?_
        refine Unw.seq ?_
        refine Go.seq ?_
        refine Go.r1 c57 rfl rfl hst (sq z57 (oAsI rfl rfl) <| nl) ?_
        refine Unw.seq ?_
        refine Go.ret (Unw.ret ?_)
        cases h
        exact Fin_ret (fin_of rfl rF57 rfl (by kernel_rfl))
      · dsimp only at h
        obtain ⟨he, hfin⟩ := hp
        obtain rfl : e = .ret := he
        cases h
        exact Unw.ret (Fin_ret hfin)
theorem L_laws_markText {k_0 : Int} {r : ByteArray} (h : laws_markText k_0 = some r) : FL Try.prog cfg 108 [.im 2 false [.sc (.int .i64 k_0)]] = some ([(false, [.im 0 (.sc (.string r))])], []) := by
  unfold laws_markText at h
  refine FL_goS (A := [(0, .v false [.im 2 (.sc (.int .i64 k_0))])]) (B := [(0, none)]) (nt := 20) rfl rfl Try.func108 rfl rfl rfl rfl ?_
  refine Go.seq ?_
  refine Go.r0 c108 rfl rfl (sq z108 (oAsI rfl rfl) <| nl) ?_
  refine Unw.seq ?_
  refine Go.seq ?_
  refine Go.seq ?_
  refine Go.r0 c108 rfl rfl (sq z108 (oMv rfl rfl) <| sq z108 (oBi rfl rfl rfl rfl) <| nl) ?_
  refine Unw.seq ?_
  by_cases hc1 : k_0 ≤ 0
  · rw [if_pos hc1] at h
    refine Go.condT rfl (iDec.2 hc1) ?_
    refine Go.seq ?_
    refine Go.r0 c108 rfl rfl (sq z108 (oAsI rfl rfl) <| nl) ?_
    refine Unw.seq ?_
    refine Go.ret (Unw.ret ?_)
    cases h
    exact Fin_ret (fin_of rfl rF108 rfl (by kernel_rfl))
  · rw [if_neg hc1] at h
    refine Go.condF rfl (byF iDec hc1) ?_
    refine Go.skip ?_
    refine Unw.seq ?_
    refine Go.seq ?_
    refine Go.r0 c108 rfl rfl (sq z108 (oAsI rfl rfl) <| nl) ?_
    refine Unw.seq ?_
    refine Go.seq ?_
    refine Go.block ?_
    obtain ⟨o, hl, h⟩ := bs h
    refine Go.lp c108 rfl _ (fun (s : (Int × ByteArray)) => match s with | (k_0_l4, out_3_l4) => mk [(0, iv k_0_l4), (3, sv out_3_l4)] []) (fun (out_3_e0_4 : ByteArray) (p : Ex × St) => p.1 = .exit 0 ∧ p.2.norm ([3], []) = mk [(3, sv out_3_e0_4)] []) hl (by kernel_rfl) ?_ ?_ ?_
    · intro o p hp e
      exact nomatch (hp.1.symm.trans e)
    · rintro ⟨k_0_l4, out_3_l4⟩ o h
      unfold laws_markText_l4 at h
      dsimp only at h
      refine Go.seq ?_
      refine Go.seq ?_
      refine Go.r0 c108 rfl rfl (sq z108 (oMv rfl rfl) <| sq z108 (oBi rfl rfl rfl rfl) <| nl) ?_
      refine Unw.seq ?_
      by_cases hc4 : k_0_l4 > 0
      · rw [if_pos hc4] at h
        refine Go.condT rfl (iDec.2 hc4) ?_
        refine Go.skip ?_
        refine Unw.seq ?_
        refine Go.block ?_
        refine Go.seq ?_
        obtain ⟨x9, hx9, h⟩ := bs h
        obtain ⟨x15, hx15, h⟩ := bs h
        refine Go.r0 c108 rfl rfl (sq z108 (oMv rfl rfl) <| sq z108 (oRem rfl hx9 rfl rfl) <| sq z108 (oBi rfl rfl rfl rfl) <| sq z108 (oCvI rfl uF3 uF5 rfl) <| sq z108 (oBS (es := List.map (eK .u8) ([(IntKind.wrap .u8 ((w64 (48 + x9))))] : List Int)) rfl sF22 rfl (ptC rfl (fxI fx0) rfl pt0) (flat0 rfl fun _ => rfl)) <| sq z108 (oCvB (l := ([(IntKind.wrap .u8 ((w64 (48 + x9))))] : List Int)) rfl uF22 uF5 uF9 rfl (el_own rfl rfl)) <| sq z108 (oMv rfl rfl) <| sq z108 (oCat rfl hx15 rfl rfl) <| sq z108 (oAsI rfl rfl) <| nl) ?_
        refine Unw.seq ?_
        obtain ⟨x17, hx17, h⟩ := bs h
        refine Go.r0 c108 rfl rfl (sq z108 (oMv rfl rfl) <| sq z108 (oQuo rfl hx17 rfl rfl) <| sq z108 (oAsI rfl rfl) <| nl) ?_
        refine Unw.blk ?_
        refine Unw.nil ?_
        cases h
        exact ⟨rfl, (by kernel_rfl)⟩
      · rw [if_neg hc4] at h
        refine Go.condF rfl (byF iDec hc4) ?_
        refine Go.exit ?_
        refine Unw.seqx ?_
        refine Unw.nil ?_
        cases h
        exact ⟨rfl, (by kernel_rfl)⟩
    · rintro ⟨e, st⟩ hp
      obtain ⟨out_3_e0_4, rfl⟩ : ∃ y, y = o := ⟨o, rfl⟩
      obtain ⟨he, hst⟩ := hp
      obtain rfl : e = .exit 0 := he
      refine Unw.blkx ?_
      refine Unw.seq ?_
      refine Go.seq ?_
      obtain ⟨x19, hx19, h⟩ := bs h
      refine Go.r1 c108 rfl rfl hst (sq z108 (oMv rfl rfl) <| sq z108 (oCat rfl hx19 rfl rfl) <| sq z108 (oAsI rfl rfl) <| nl) ?_
      refine Unw.seq ?_
      refine Go.ret (Unw.ret ?_)
      cases h
      exact Fin_ret (fin_of rfl rF108 rfl (by kernel_rfl))
theorem L_laws_markBondS {a_0 : (List S_Bond)} {k_1 : Int} {r : (Int × (List S_Bond))} (h : laws_markBondS a_0 k_1 = some r) : FL Try.prog cfg 58 [.ow 4 (List.map e_S_Bond a_0), .im 2 false [.sc (.int .i64 k_1)]] = some ([(false, [.im 0 (.sc (.int .i64 r.1))])], [.ow 4 (List.map e_S_Bond r.2)]) := by
  unfold laws_markBondS at h
  refine FL_goS (A := [(0, .v false [.own 0 0 0]), (1, .v false [.im 2 (.sc (.int .i64 k_1))])]) (B := [(0, some ⟨0, 0, true, false, false, false, [⟨.sh, 0, 0, .row 4 (List.map e_S_Bond a_0)⟩]⟩), (1, none)]) (nt := 42) rfl rfl Try.func58 rfl rfl rfl rfl ?_
  refine Go.seq ?_
  refine Go.r0 c58 rfl rfl (sq z58 (oAsI rfl rfl) <| nl) ?_
  refine Unw.seq ?_
  refine Go.seq ?_
  refine Go.seq ?_
  refine Go.r0 c58 rfl rfl (sq z58 (oAsI rfl rfl) <| nl) ?_
  refine Unw.seq ?_
  refine Go.block ?_
  obtain ⟨o, hl, h⟩ := bs h
  refine Go.lp c58 rfl _ (fun (s : (Int × Int × (List S_Bond))) => match s with | (k_1_l2, i_5_l2, a_o0_l2) => mk [(0, .v false [.own 0 0 0]), (1, iv k_1_l2), (5, iv i_5_l2)] [(0, some ⟨0, 0, true, false, false, false, [⟨.sh, 0, 0, .row 4 (List.map e_S_Bond a_o0_l2)⟩]⟩)]) (fun (o : (Int × (List S_Bond))) (p : Ex × St) => match o with | (k_1_e0_2, a_o0_e0_2) => p.1 = .exit 0 ∧ p.2.norm ([1], [0]) = mk [(1, iv k_1_e0_2)] [(0, some ⟨0, 0, true, false, false, false, [⟨.sh, 0, 0, .row 4 (List.map e_S_Bond a_o0_e0_2)⟩]⟩)]) hl (by kernel_rfl) ?_ ?_ ?_
  · intro o p hp e
    obtain ⟨k_1_e0_2, a_o0_e0_2⟩ := o
    exact nomatch (hp.1.symm.trans e)
  · rintro ⟨k_1_l2, i_5_l2, a_o0_l2⟩ o h
    unfold laws_markBondS_l2 at h
    dsimp only at h
    refine Go.seq ?_
    refine Go.seq ?_
    refine Go.r0 c58 rfl rfl (sq z58 (oMv rfl rfl) <| sq z58 (oMv rfl rfl) <| sq z58 (oLnO rfl rfl uF81 rfl rfl rfl (fun e => nomatch e)) <| sq z58 (oBi rfl rfl rfl rfl) <| nl) ?_
    refine Unw.seq ?_
    by_cases hc3 : i_5_l2 < (a_o0_l2.length : Int)
    · rw [if_pos hc3] at h
      refine Go.condT rfl (iDec.2 hc3) ?_
      refine Go.skip ?_
      refine Unw.seq ?_
      refine Go.seq ?_
      refine Go.block ?_
      refine Go.seq ?_
      obtain ⟨x15, hx15, h⟩ := bs h
      obtain ⟨x16, hx16, h⟩ := bs h
      refine Go.r0 c58 rfl rfl (sq z58 (oMv rfl rfl) <| sq z58 (oMv rfl rfl) <| sq z58 (oMv rfl rfl) <| sq z58 (oCa (xs := [.v false [.im 0 _]]) (vs := [(false, [.im 0 _])]) (v := .v false [.im 0 _]) (L_laws_markText hx15) (.inl rfl) rfl kF108_3 rfl (ppC rfl pp0) rfl rfl pb0 rfl rfl rfl) <| sq z58 (oIAO rfl hx16 sF81 rfl rfl rfl rfl) <| sq z58 (oFA (r' := .mpe 0 0 0 _ 0) rfl fF209_0 rfl rfl) <| sq z58 (oStE (v' := (⟨x15, x16.Spread, x16.Open, x16.Press⟩ : S_Bond)) tF9 rfl rfl rfl (fxI fx0) rfl rfl (rd_get hx16) rfl) <| nl) ?_
      refine Unw.seq ?_
      refine Go.seq ?_
      refine Go.r1 c58 rfl rfl (st1 := mk [(0, .v false [.own 0 0 0]), (1, iv k_1_l2), (5, iv i_5_l2)] [(0, some ⟨0, 0, true, false, false, false, [⟨.sh, 0, 0, .row 4 (List.map e_S_Bond (a_o0_l2.set i_5_l2.toNat (⟨x15, x16.Spread, x16.Open, x16.Press⟩ : S_Bond)))⟩]⟩)]) (by kernel_rfl) (sq z58 (oMv rfl rfl) <| sq z58 (oBi rfl rfl rfl rfl) <| sq z58 (oAsI rfl rfl) <| nl) ?_
      refine Unw.seq ?_
      refine Go.seq ?_
      obtain ⟨x23, hx23, h⟩ := bs h
      refine Go.r0 c58 rfl rfl (sq z58 (oMv rfl rfl) <| sq z58 (oMv rfl rfl) <| sq z58 (oMv rfl rfl) <| sq z58 (oIAO rfl hx23 sF81 rfl rfl rfl rfl) <| sq z58 (oFA (r' := .mpe 0 0 0 _ 1) rfl fF209_1 rfl rfl) <| sq z58 (oStE (v' := (⟨x23.Name, (w64 (k_1_l2 + 1)), x23.Open, x23.Press⟩ : S_Bond)) tF2 rfl rfl rfl (fxI fx0) rfl rfl (rd_get hx23) rfl) <| nl) ?_
      refine Unw.seq ?_
      refine Go.seq ?_
      refine Go.r1 c58 rfl rfl (st1 := mk [(0, .v false [.own 0 0 0]), (1, iv (w64 (k_1_l2 + 1))), (5, iv i_5_l2)] [(0, some ⟨0, 0, true, false, false, false, [⟨.sh, 0, 0, .row 4 (List.map e_S_Bond ((a_o0_l2.set i_5_l2.toNat (⟨x15, x16.Spread, x16.Open, x16.Press⟩ : S_Bond)).set i_5_l2.toNat (⟨x23.Name, (w64 (k_1_l2 + 1)), x23.Open, x23.Press⟩ : S_Bond)))⟩]⟩)]) (by kernel_rfl) (sq z58 (oMv rfl rfl) <| sq z58 (oBi rfl rfl rfl rfl) <| sq z58 (oAsI rfl rfl) <| nl) ?_
      refine Unw.seq ?_
      refine Go.seq ?_
      obtain ⟨x30, hx30, h⟩ := bs h
      refine Go.r0 c58 rfl rfl (sq z58 (oMv rfl rfl) <| sq z58 (oMv rfl rfl) <| sq z58 (oMv rfl rfl) <| sq z58 (oIAO rfl hx30 sF81 rfl rfl rfl rfl) <| sq z58 (oFA (r' := .mpe 0 0 0 _ 2) rfl fF209_2 rfl rfl) <| sq z58 (oStE (v' := (⟨x30.Name, x30.Spread, (w64 ((w64 (k_1_l2 + 1)) + 1)), x30.Press⟩ : S_Bond)) tF2 rfl rfl rfl (fxI fx0) rfl rfl (rd_get hx30) rfl) <| nl) ?_
      refine Unw.seq ?_
      refine Go.seq ?_
      refine Go.r1 c58 rfl rfl (st1 := mk [(0, .v false [.own 0 0 0]), (1, iv (w64 ((w64 (k_1_l2 + 1)) + 1))), (5, iv i_5_l2)] [(0, some ⟨0, 0, true, false, false, false, [⟨.sh, 0, 0, .row 4 (List.map e_S_Bond (((a_o0_l2.set i_5_l2.toNat (⟨x15, x16.Spread, x16.Open, x16.Press⟩ : S_Bond)).set i_5_l2.toNat (⟨x23.Name, (w64 (k_1_l2 + 1)), x23.Open, x23.Press⟩ : S_Bond)).set i_5_l2.toNat (⟨x30.Name, x30.Spread, (w64 ((w64 (k_1_l2 + 1)) + 1)), x30.Press⟩ : S_Bond)))⟩]⟩)]) (by kernel_rfl) (sq z58 (oMv rfl rfl) <| sq z58 (oBi rfl rfl rfl rfl) <| sq z58 (oAsI rfl rfl) <| nl) ?_
      refine Unw.seq ?_
      refine Go.seq ?_
      obtain ⟨x37, hx37, h⟩ := bs h
      refine Go.r0 c58 rfl rfl (sq z58 (oMv rfl rfl) <| sq z58 (oMv rfl rfl) <| sq z58 (oMv rfl rfl) <| sq z58 (oIAO rfl hx37 sF81 rfl rfl rfl rfl) <| sq z58 (oFA (r' := .mpe 0 0 0 _ 3) rfl fF209_3 rfl rfl) <| sq z58 (oStE (v' := (⟨x37.Name, x37.Spread, x37.Open, (w64 ((w64 ((w64 (k_1_l2 + 1)) + 1)) + 1))⟩ : S_Bond)) tF2 rfl rfl rfl (fxI fx0) rfl rfl (rd_get hx37) rfl) <| nl) ?_
      refine Unw.seq ?_
      refine Go.r1 c58 rfl rfl (st1 := mk [(0, .v false [.own 0 0 0]), (1, iv (w64 ((w64 ((w64 (k_1_l2 + 1)) + 1)) + 1))), (5, iv i_5_l2)] [(0, some ⟨0, 0, true, false, false, false, [⟨.sh, 0, 0, .row 4 (List.map e_S_Bond ((((a_o0_l2.set i_5_l2.toNat (⟨x15, x16.Spread, x16.Open, x16.Press⟩ : S_Bond)).set i_5_l2.toNat (⟨x23.Name, (w64 (k_1_l2 + 1)), x23.Open, x23.Press⟩ : S_Bond)).set i_5_l2.toNat (⟨x30.Name, x30.Spread, (w64 ((w64 (k_1_l2 + 1)) + 1)), x30.Press⟩ : S_Bond)).set i_5_l2.toNat (⟨x37.Name, x37.Spread, x37.Open, (w64 ((w64 ((w64 (k_1_l2 + 1)) + 1)) + 1))⟩ : S_Bond)))⟩]⟩)]) (by kernel_rfl) (sq z58 (oMv rfl rfl) <| sq z58 (oBi rfl rfl rfl rfl) <| sq z58 (oAsI rfl rfl) <| nl) ?_
      refine Unw.blk ?_
      refine Unw.seq ?_
      refine Go.r0 c58 rfl rfl (sq z58 (oMv rfl rfl) <| sq z58 (oBi rfl rfl rfl rfl) <| sq z58 (oAsI rfl rfl) <| nl) ?_
      refine Unw.nil ?_
      cases h
      exact ⟨rfl, (by kernel_rfl)⟩
    · rw [if_neg hc3] at h
      refine Go.condF rfl (byF iDec hc3) ?_
      refine Go.exit ?_
      refine Unw.seqx ?_
      refine Unw.nil ?_
      cases h
      exact ⟨rfl, (by kernel_rfl)⟩
  · rintro ⟨e, st⟩ hp
    obtain ⟨k_1_e0_2, a_o0_e0_2⟩ := o
    dsimp only at h
    obtain ⟨he, hst⟩ := hp
    obtain rfl : e = .exit 0 := he
    refine Unw.blkx ?_
    refine Unw.seq ?_
    refine Go.seq ?_
    refine Go.r1 c58 rfl rfl hst (sq z58 (oMv rfl rfl) <| sq z58 (oAsI rfl rfl) <| nl) ?_
    refine Unw.seq ?_
    refine Go.ret (Unw.ret ?_)
    cases h
    exact Fin_ret (fin_of rfl rF58 rfl (by kernel_rfl))
theorem L_laws_markInt64S {a_0 : (List Int)} {k_1 : Int} {r : (Int × (List Int))} (h : laws_markInt64S a_0 k_1 = some r) : FL Try.prog cfg 30 [.ow 1 (List.map eI a_0), .im 2 false [.sc (.int .i64 k_1)]] = some ([(false, [.im 0 (.sc (.int .i64 r.1))])], [.ow 1 (List.map eI r.2)]) := by
  unfold laws_markInt64S at h
  refine FL_goS (A := [(0, .v false [.own 0 0 0]), (1, .v false [.im 2 (.sc (.int .i64 k_1))])]) (B := [(0, some ⟨0, 0, true, false, false, false, [⟨.sh, 0, 0, .row 1 (List.map eI a_0)⟩]⟩), (1, none)]) (nt := 19) rfl rfl Try.func30 rfl rfl rfl rfl ?_
  refine Go.seq ?_
  refine Go.r0 c30 rfl rfl (sq z30 (oAsI rfl rfl) <| nl) ?_
  refine Unw.seq ?_
  refine Go.seq ?_
  refine Go.seq ?_
  refine Go.r0 c30 rfl rfl (sq z30 (oAsI rfl rfl) <| nl) ?_
  refine Unw.seq ?_
  refine Go.block ?_
  obtain ⟨o, hl, h⟩ := bs h
  refine Go.lp c30 rfl _ (fun (s : (Int × Int × (List Int))) => match s with | (k_1_l2, i_5_l2, a_o0_l2) => mk [(0, .v false [.own 0 0 0]), (1, iv k_1_l2), (5, iv i_5_l2)] [(0, some ⟨0, 0, true, false, false, false, [⟨.sh, 0, 0, .row 1 (List.map eI a_o0_l2)⟩]⟩)]) (fun (o : (Int × (List Int))) (p : Ex × St) => match o with | (k_1_e0_2, a_o0_e0_2) => p.1 = .exit 0 ∧ p.2.norm ([1], [0]) = mk [(1, iv k_1_e0_2)] [(0, some ⟨0, 0, true, false, false, false, [⟨.sh, 0, 0, .row 1 (List.map eI a_o0_e0_2)⟩]⟩)]) hl (by kernel_rfl) ?_ ?_ ?_
  · intro o p hp e
    obtain ⟨k_1_e0_2, a_o0_e0_2⟩ := o
    exact nomatch (hp.1.symm.trans e)
  · rintro ⟨k_1_l2, i_5_l2, a_o0_l2⟩ o h
    unfold laws_markInt64S_l2 at h
    dsimp only at h
    refine Go.seq ?_
    refine Go.seq ?_
    refine Go.r0 c30 rfl rfl (sq z30 (oMv rfl rfl) <| sq z30 (oMv rfl rfl) <| sq z30 (oLnO rfl rfl uF27 rfl rfl rfl (fun e => nomatch e)) <| sq z30 (oBi rfl rfl rfl rfl) <| nl) ?_
    refine Unw.seq ?_
    by_cases hc3 : i_5_l2 < (a_o0_l2.length : Int)
    · rw [if_pos hc3] at h
      refine Go.condT rfl (iDec.2 hc3) ?_
      refine Go.skip ?_
      refine Unw.seq ?_
      refine Go.seq ?_
      refine Go.block ?_
      refine Go.seq ?_
      obtain ⟨x15, hx15, h⟩ := bs h
      refine Go.r0 c30 rfl rfl (sq z30 (oMv rfl rfl) <| sq z30 (oMv rfl rfl) <| sq z30 (oMv rfl rfl) <| sq z30 (oIAO rfl hx15 sF27 rfl rfl rfl rfl) <| sq z30 (oStE (v' := k_1_l2) tF2 rfl rfl rfl (fxI fx0) rfl rfl (rd_get hx15) rfl) <| nl) ?_
      refine Unw.seq ?_
      refine Go.r1 c30 rfl rfl (st1 := mk [(0, .v false [.own 0 0 0]), (1, iv k_1_l2), (5, iv i_5_l2)] [(0, some ⟨0, 0, true, false, false, false, [⟨.sh, 0, 0, .row 1 (List.map eI (a_o0_l2.set i_5_l2.toNat k_1_l2))⟩]⟩)]) (by kernel_rfl) (sq z30 (oMv rfl rfl) <| sq z30 (oBi rfl rfl rfl rfl) <| sq z30 (oAsI rfl rfl) <| nl) ?_
      refine Unw.blk ?_
      refine Unw.seq ?_
      refine Go.r0 c30 rfl rfl (sq z30 (oMv rfl rfl) <| sq z30 (oBi rfl rfl rfl rfl) <| sq z30 (oAsI rfl rfl) <| nl) ?_
      refine Unw.nil ?_
      cases h
      exact ⟨rfl, (by kernel_rfl)⟩
    · rw [if_neg hc3] at h
      refine Go.condF rfl (byF iDec hc3) ?_
      refine Go.exit ?_
      refine Unw.seqx ?_
      refine Unw.nil ?_
      cases h
      exact ⟨rfl, (by kernel_rfl)⟩
  · rintro ⟨e, st⟩ hp
    obtain ⟨k_1_e0_2, a_o0_e0_2⟩ := o
    dsimp only at h
    obtain ⟨he, hst⟩ := hp
    obtain rfl : e = .exit 0 := he
    refine Unw.blkx ?_
    refine Unw.seq ?_
    refine Go.seq ?_
    refine Go.r1 c30 rfl rfl hst (sq z30 (oMv rfl rfl) <| sq z30 (oAsI rfl rfl) <| nl) ?_
    refine Unw.seq ?_
    refine Go.ret (Unw.ret ?_)
    cases h
    exact Fin_ret (fin_of rfl rF30 rfl (by kernel_rfl))
theorem L_laws_heldInt64S {a_0 : (List Int)} {k_1 : Int} {r : Int} (h : laws_heldInt64S a_0 k_1 = some r) : FL Try.prog cfg 31 [.im 2 false [.row 1 (List.map eI a_0)], .im 2 false [.sc (.int .i64 k_1)]] = some ([(false, [.im 0 (.sc (.int .i64 r))])], []) := by
  unfold laws_heldInt64S at h
  refine FL_goS (A := [(0, .v false [.im 2 (.row 1 (List.map eI a_0))]), (1, .v false [.im 2 (.sc (.int .i64 k_1))])]) (B := [(0, none), (1, none)]) (nt := 21) rfl rfl Try.func31 rfl rfl rfl rfl ?_
  refine Go.seq ?_
  refine Go.r0 c31 rfl rfl (sq z31 (oAsI rfl rfl) <| nl) ?_
  refine Unw.seq ?_
  refine Go.seq ?_
  refine Go.seq ?_
  refine Go.r0 c31 rfl rfl (sq z31 (oAsI rfl rfl) <| nl) ?_
  refine Unw.seq ?_
  refine Go.block ?_
  obtain ⟨o, hl, h⟩ := bs h
  refine Go.lp c31 rfl _ (fun (s : (Int × Int)) => match s with | (k_1_l2, i_5_l2) => mk [(0, .v false [.im 2 (.row 1 (List.map eI a_0))]), (1, iv k_1_l2), (5, iv i_5_l2)] []) (fun (o : (Int ⊕ Int)) (p : Ex × St) => match o with | (.inl k_1_e0_2) => p.1 = .exit 0 ∧ p.2.norm ([1], []) = mk [(1, iv k_1_e0_2)] [] | (.inr r2) => p.1 = .ret ∧ fin Try.prog cfg 31 Try.f31 [.im 2 false [.row 1 (List.map eI a_0)], .im 2 false [.sc (.int .i64 k_1)]] p.2 = some ([(false, [.im 0 (.sc (.int .i64 r2))])], [])) hl (by kernel_rfl) ?_ ?_ ?_
  · intro o p hp e
    rcases o with k_1_e0_2 | r2 <;> exact nomatch (hp.1.symm.trans e)
  · rintro ⟨k_1_l2, i_5_l2⟩ o h
    unfold laws_heldInt64S_l2 at h
    dsimp only at h
    refine Go.seq ?_
    refine Go.seq ?_
    refine Go.r0 c31 rfl rfl (sq z31 (oMv rfl rfl) <| sq z31 (oMv rfl rfl) <| sq z31 (oLnI rfl rfl uF27 rfl) <| sq z31 (oBi rfl rfl rfl rfl) <| nl) ?_
    refine Unw.seq ?_
    by_cases hc5 : i_5_l2 < (a_0.length : Int)
    · rw [if_pos hc5] at h
      refine Go.condT rfl (iDec.2 hc5) ?_
      refine Go.skip ?_
      refine Unw.seq ?_
      refine Go.seq ?_
      refine Go.block ?_
      refine Go.seq ?_
      refine Go.seq ?_
      obtain ⟨x14, hx14, h⟩ := bs h
      refine Go.r0 c31 rfl rfl (sq z31 (oMv rfl rfl) <| sq z31 (oMv rfl rfl) <| sq z31 (oIAI rfl hx14 sF27 rfl rfl) <| sq z31 (oLd (cs := [.im 2 _]) rfl tF2 rfl rfl) <| sq z31 (oMv rfl rfl) <| sq z31 (oBi rfl rfl rfl rfl) <| nl) ?_
      refine Unw.seq ?_
      by_cases hc6 : x14 ≠ k_1_l2
      · rw [if_pos hc6] at h
        refine Go.condT rfl (iNe.2 hc6) ?_
        refine Go.seq ?_
        refine Go.r0 c31 rfl rfl (sq z31 (oAsI rfl rfl) <| nl) ?_
        refine Unw.seq ?_
        refine Go.ret (Unw.ret ?_)
        cases h
        exact ⟨rfl, (fin_of rfl rF31 rfl (by kernel_rfl))⟩
      · rw [if_neg hc6] at h
        refine Go.condF rfl (byF iNe hc6) ?_
        refine Go.skip ?_
        refine Unw.seq ?_
        refine Go.r0 c31 rfl rfl (sq z31 (oMv rfl rfl) <| sq z31 (oBi rfl rfl rfl rfl) <| sq z31 (oAsI rfl rfl) <| nl) ?_
        refine Unw.blk ?_
        refine Unw.seq ?_
        refine Go.r0 c31 rfl rfl (sq z31 (oMv rfl rfl) <| sq z31 (oBi rfl rfl rfl rfl) <| sq z31 (oAsI rfl rfl) <| nl) ?_
        refine Unw.nil ?_
        cases h
        exact ⟨rfl, (by kernel_rfl)⟩
    · rw [if_neg hc5] at h
      refine Go.condF rfl (byF iDec hc5) ?_
      refine Go.exit ?_
      refine Unw.seqx ?_
      refine Unw.nil ?_
      cases h
      exact ⟨rfl, (by kernel_rfl)⟩
  · rintro ⟨e, st⟩ hp
    rcases o with k_1_e0_2 | r2
    · dsimp only at h
      obtain ⟨he, hst⟩ := hp
      obtain rfl : e = .exit 0 := he
      refine Unw.blkx ?_
      refine Unw.seq ?_
      refine Go.seq ?_
      refine Go.r1 c31 rfl rfl hst (sq z31 (oMv rfl rfl) <| sq z31 (oAsI rfl rfl) <| nl) ?_
      refine Unw.seq ?_
      refine Go.ret (Unw.ret ?_)
      cases h
      exact Fin_ret (fin_of rfl rF31 rfl (by kernel_rfl))
    · dsimp only at h
      obtain ⟨he, hfin⟩ := hp
      obtain rfl : e = .ret := he
      cases h
      exact Unw.ret (Fin_ret hfin)
theorem L_laws_FnExactBestGlueOrder {aList_0 : (List S_Bond)} {aPresses_1 : Int} {aBudget_2 : Int} {r : Bool} (h : laws_FnExactBestGlueOrder aList_0 aPresses_1 aBudget_2 = some r) : FL Try.prog cfg 8 [.im 2 false [.row 4 (List.map e_S_Bond aList_0)], .im 2 false [.sc (.int .i64 aPresses_1)], .im 2 false [.sc (.int .i64 aBudget_2)]] = some ([(false, [.im 0 (.sc (.bool r))])], []) := by
  unfold laws_FnExactBestGlueOrder at h
  refine FL_goS (A := [(0, .v false [.im 2 (.row 4 (List.map e_S_Bond aList_0))]), (1, .v false [.im 2 (.sc (.int .i64 aPresses_1))]), (2, .v false [.im 2 (.sc (.int .i64 aBudget_2))])]) (B := [(0, none), (1, none), (2, none)]) (nt := 127) rfl rfl Try.func8 rfl rfl rfl rfl ?_
  refine Go.seq ?_
  refine Go.r0 c8 rfl rfl (sq z8 (oAsI rfl rfl) <| nl) ?_
  refine Unw.seq ?_
  refine Go.seq ?_
  refine Go.r0 c8 rfl rfl (sq z8 (oAsI rfl rfl) <| nl) ?_
  refine Unw.seq ?_
  refine Go.seq ?_
  obtain ⟨x23, hx23, h⟩ := bs h
  refine Go.r0 c8 rfl rfl (sq z8 (oMv rfl rfl) <| sq z8 (oMv rfl rfl) <| sq z8 (oCa (xs := [.v false [.im 2 _], .v false [.im 0 _]]) (vs := [(false, [.im 0 _])]) (v := .v false [.im 0 _]) (L_laws_szBondS hx23) (.inl rfl) rfl kF53_78_3 rfl (ppC rfl (ppC rfl pp0)) rfl rfl pb0 rfl rfl rfl) <| sq z8 (oAsI rfl rfl) <| nl) ?_
  refine Unw.seq ?_
  refine Go.seq ?_
  refine Go.seq ?_
  refine Go.r0 c8 rfl rfl (sq z8 (oMv rfl rfl) <| sq z8 (oBi rfl rfl rfl rfl) <| nl) ?_
  refine Unw.seq ?_
  by_cases hc1 : x23 < 0
  · rw [if_pos hc1] at h
    refine Go.condT rfl (iDec.2 hc1) ?_
    refine Go.seq ?_
    refine Go.r0 c8 rfl rfl (sq z8 (oAsI rfl rfl) <| nl) ?_
    refine Unw.seq ?_
    refine Go.ret (Unw.ret ?_)
    cases h
    exact Fin_ret (fin_of rfl rF8 rfl (by kernel_rfl))
  · rw [if_neg hc1] at h
    refine Go.condF rfl (byF iDec hc1) ?_
    refine Go.skip ?_
    refine Unw.seq ?_
    refine Go.seq ?_
    obtain ⟨x28, hx28, h⟩ := bs h
    obtain ⟨x31, hx31, h⟩ := bs h
    refine Go.r0 c8 rfl rfl (sq z8 (oMv rfl rfl) <| sq z8 (oCr (xs := [.v false [.im 2 _]]) (vs := [(false, [.own 28 0 0])]) (v := .v false [.own 28 0 0]) (c := ⟨.sh, 0, _⟩) (cs := []) (L_laws_toBondS hx28) (.inl rfl) rfl kF55_78 rfl (ppC rfl pp0) rfl rfl pb0 rfl rfl rfl) <| sq z8 (oMv rfl rfl) <| sq z8 (oMv rfl rfl) <| sq z8 (oCr (xs := [.v false [.own 28 0 0], .v false [.im 2 _], .v false [.im 2 _]]) (vs := [(false, [.own 31 0 0]), (false, [.im 0 _]), (false, [.im 0 _])]) (v := .tup [(false, [.own 31 0 0]), (false, [.im 0 _]), (false, [.im 0 _])]) (c := ⟨.sh, 0, _⟩) (cs := []) (L_spec_BestGlueOrder hx31) (.inl rfl) rfl kF54_81_2_2 rfl (ppC rfl (ppC rfl (ppC rfl pp0))) rfl rfl pb0 rfl rfl rfl) <| sq z8 (oMvT rfl rfl) <| sq z8 (oEx rfl rfl rfl) <| sq z8 (oEx rfl rfl rfl) <| sq z8 (oEx rfl rfl rfl) <| sq z8 (oAsO rfl rfl rfl rfl rfl) <| sq z8 (oAsI rfl rfl) <| sq z8 (oAsI rfl rfl) <| nl) ?_
    refine Unw.seq ?_
    refine Go.seq ?_
    obtain ⟨x36, hx36, h⟩ := bs h
    refine Go.r0 c8 rfl rfl (sq z8 (oMv rfl rfl) <| sq z8 (oCr (xs := [.v false [.im 2 _]]) (vs := [(false, [.own 36 0 0])]) (v := .v false [.own 36 0 0]) (c := ⟨.sh, 0, _⟩) (cs := []) (L_laws_toBondS hx36) (.inl rfl) rfl kF55_78 rfl (ppC rfl pp0) rfl rfl pb0 rfl rfl rfl) <| sq z8 (oAsO rfl rfl rfl rfl rfl) <| nl) ?_
    refine Unw.seq ?_
    refine Go.seq ?_
    obtain ⟨x41, hx41, h⟩ := bs h
    refine Go.r0 c8 rfl rfl (sq z8 (oMv rfl rfl) <| sq z8 (oMv rfl rfl) <| sq z8 (oMv rfl rfl) <| sq z8 (oCr (xs := [.v false [.own 11 0 0], .v false [.im 2 _], .v false [.im 2 _]]) (vs := [(false, [.own 41 0 0]), (false, [.im 0 _]), (false, [.im 0 _])]) (v := .tup [(false, [.own 41 0 0]), (false, [.im 0 _]), (false, [.im 0 _])]) (c := ⟨.sh, 0, _⟩) (cs := []) (L_impl_BestGlueOrder hx41) (.inl rfl) rfl kF56_81_2_2 rfl (ppC rfl (ppC rfl (ppC rfl pp0))) rfl rfl pb0 rfl rfl rfl) <| sq z8 (oMvT rfl rfl) <| sq z8 (oEx rfl rfl rfl) <| sq z8 (oEx rfl rfl rfl) <| sq z8 (oEx rfl rfl rfl) <| sq z8 (oAsO rfl rfl rfl rfl rfl) <| sq z8 (oAsI rfl rfl) <| sq z8 (oAsI rfl rfl) <| nl) ?_
    refine Unw.seq ?_
    refine Go.seq ?_
    refine Go.seq ?_
    obtain ⟨x47, hx47, h⟩ := bs h
    refine Go.rX c8 rfl rfl rfl (mk [(0, .v false [.im 2 (.row 4 (List.map e_S_Bond aList_0))]), (1, iv aPresses_1), (2, iv aBudget_2), (8, .v false [.own 8 0 0]), (9, iv x31.2.1), (10, iv x31.2.2), (11, .v false [.own 11 0 0]), (12, .v false [.own 12 0 0]), (13, iv x41.2.1), (14, iv x41.2.2), (58, bv ((!x47) || ((x41.2.1 != x31.2.1) || (x41.2.2 != x31.2.2))))] [(8, some ⟨0, 0, false, false, false, false, [⟨.sh, 0, 0, .row 1 (List.map eI x31.1)⟩]⟩), (11, some ⟨0, 0, false, false, false, false, [⟨.sh, 0, 0, .row 4 (List.map e_S_Bond x36)⟩]⟩), (12, some ⟨0, 0, false, false, false, false, [⟨.sh, 0, 0, .row 1 (List.map eI x41.1)⟩]⟩)]) ?_ ?_
    · by_cases hc2 : x47 = true
      · by_cases hc3 : x41.2.1 ≠ x31.2.1
        · exact ⟨_, sq z8 (oMv rfl rfl) <| sq z8 (oMv rfl rfl) <| sq z8 (oCa (xs := [.v false [.own 12 0 0], .v false [.own 8 0 0]]) (vs := [(false, [.im 0 _])]) (v := .v false [.im 0 _]) (L_laws_eqInt64S hx47) (.inl rfl) rfl kF27_27_27 rfl (ppC rfl (ppC rfl pp0)) rfl rfl pb0 rfl rfl rfl) <| sq z8 (oUn rfl rfl rfl) <| sq z8 (oMv rfl rfl) <| sgT z8 rfl rfl (nF (Iff.rfl.2 hc2)) (oMv rfl rfl) <| sgT z8 rfl rfl (nF (Iff.rfl.2 hc2)) (oMv rfl rfl) <| sgT z8 rfl rfl (nF (Iff.rfl.2 hc2)) (oBi rfl rfl rfl rfl) <| sq z8 (oPkF rfl rfl (nF (Iff.rfl.2 hc2)) rfl) <| sq z8 (oMv rfl rfl) <| sgF rfl rfl (iNe.2 hc3) rfl <| sgF rfl rfl (iNe.2 hc3) rfl <| sgF rfl rfl (iNe.2 hc3) rfl <| sq z8 (oPkT rfl rfl (iNe.2 hc3) rfl) <| nl, (Eq.trans (b := (fun t_58_m8 : Bool => mk [(0, .v false [.im 2 (.row 4 (List.map e_S_Bond aList_0))]), (1, iv aPresses_1), (2, iv aBudget_2), (8, .v false [.own 8 0 0]), (9, iv x31.2.1), (10, iv x31.2.2), (11, .v false [.own 11 0 0]), (12, .v false [.own 12 0 0]), (13, iv x41.2.1), (14, iv x41.2.2), (58, bv t_58_m8)] [(8, some ⟨0, 0, false, false, false, false, [⟨.sh, 0, 0, .row 1 (List.map eI x31.1)⟩]⟩), (11, some ⟨0, 0, false, false, false, false, [⟨.sh, 0, 0, .row 4 (List.map e_S_Bond x36)⟩]⟩), (12, some ⟨0, 0, false, false, false, false, [⟨.sh, 0, 0, .row 1 (List.map eI x41.1)⟩]⟩)]) true) (by kernel_rfl) (congrArg (fun t_58_m8 : Bool => mk [(0, .v false [.im 2 (.row 4 (List.map e_S_Bond aList_0))]), (1, iv aPresses_1), (2, iv aBudget_2), (8, .v false [.own 8 0 0]), (9, iv x31.2.1), (10, iv x31.2.2), (11, .v false [.own 11 0 0]), (12, .v false [.own 12 0 0]), (13, iv x41.2.1), (14, iv x41.2.2), (58, bv t_58_m8)] [(8, some ⟨0, 0, false, false, false, false, [⟨.sh, 0, 0, .row 1 (List.map eI x31.1)⟩]⟩), (11, some ⟨0, 0, false, false, false, false, [⟨.sh, 0, 0, .row 4 (List.map e_S_Bond x36)⟩]⟩), (12, some ⟨0, 0, false, false, false, false, [⟨.sh, 0, 0, .row 1 (List.map eI x41.1)⟩]⟩)]) (by first | rfl | (simp [(Iff.rfl.2 hc2), (iNe.2 hc3)]; done) | (simp [(Iff.rfl.2 hc2), (iNe.2 hc3)]; omega))))⟩
        · exact ⟨_, sq z8 (oMv rfl rfl) <| sq z8 (oMv rfl rfl) <| sq z8 (oCa (xs := [.v false [.own 12 0 0], .v false [.own 8 0 0]]) (vs := [(false, [.im 0 _])]) (v := .v false [.im 0 _]) (L_laws_eqInt64S hx47) (.inl rfl) rfl kF27_27_27 rfl (ppC rfl (ppC rfl pp0)) rfl rfl pb0 rfl rfl rfl) <| sq z8 (oUn rfl rfl rfl) <| sq z8 (oMv rfl rfl) <| sgT z8 rfl rfl (nF (Iff.rfl.2 hc2)) (oMv rfl rfl) <| sgT z8 rfl rfl (nF (Iff.rfl.2 hc2)) (oMv rfl rfl) <| sgT z8 rfl rfl (nF (Iff.rfl.2 hc2)) (oBi rfl rfl rfl rfl) <| sq z8 (oPkF rfl rfl (nF (Iff.rfl.2 hc2)) rfl) <| sq z8 (oMv rfl rfl) <| sgT z8 rfl rfl (byF iNe hc3) (oMv rfl rfl) <| sgT z8 rfl rfl (byF iNe hc3) (oMv rfl rfl) <| sgT z8 rfl rfl (byF iNe hc3) (oBi rfl rfl rfl rfl) <| sq z8 (oPkF rfl rfl (byF iNe hc3) rfl) <| nl, (Eq.trans (b := (fun t_58_m8 : Bool => mk [(0, .v false [.im 2 (.row 4 (List.map e_S_Bond aList_0))]), (1, iv aPresses_1), (2, iv aBudget_2), (8, .v false [.own 8 0 0]), (9, iv x31.2.1), (10, iv x31.2.2), (11, .v false [.own 11 0 0]), (12, .v false [.own 12 0 0]), (13, iv x41.2.1), (14, iv x41.2.2), (58, bv t_58_m8)] [(8, some ⟨0, 0, false, false, false, false, [⟨.sh, 0, 0, .row 1 (List.map eI x31.1)⟩]⟩), (11, some ⟨0, 0, false, false, false, false, [⟨.sh, 0, 0, .row 4 (List.map e_S_Bond x36)⟩]⟩), (12, some ⟨0, 0, false, false, false, false, [⟨.sh, 0, 0, .row 1 (List.map eI x41.1)⟩]⟩)]) (x41.2.2 != x31.2.2)) (by kernel_rfl) (congrArg (fun t_58_m8 : Bool => mk [(0, .v false [.im 2 (.row 4 (List.map e_S_Bond aList_0))]), (1, iv aPresses_1), (2, iv aBudget_2), (8, .v false [.own 8 0 0]), (9, iv x31.2.1), (10, iv x31.2.2), (11, .v false [.own 11 0 0]), (12, .v false [.own 12 0 0]), (13, iv x41.2.1), (14, iv x41.2.2), (58, bv t_58_m8)] [(8, some ⟨0, 0, false, false, false, false, [⟨.sh, 0, 0, .row 1 (List.map eI x31.1)⟩]⟩), (11, some ⟨0, 0, false, false, false, false, [⟨.sh, 0, 0, .row 4 (List.map e_S_Bond x36)⟩]⟩), (12, some ⟨0, 0, false, false, false, false, [⟨.sh, 0, 0, .row 1 (List.map eI x41.1)⟩]⟩)]) (by first | rfl | (simp [(Iff.rfl.2 hc2), (byF iNe hc3)]; done) | (simp [(Iff.rfl.2 hc2), (byF iNe hc3)]; omega))))⟩
      · exact ⟨_, sq z8 (oMv rfl rfl) <| sq z8 (oMv rfl rfl) <| sq z8 (oCa (xs := [.v false [.own 12 0 0], .v false [.own 8 0 0]]) (vs := [(false, [.im 0 _])]) (v := .v false [.im 0 _]) (L_laws_eqInt64S hx47) (.inl rfl) rfl kF27_27_27 rfl (ppC rfl (ppC rfl pp0)) rfl rfl pb0 rfl rfl rfl) <| sq z8 (oUn rfl rfl rfl) <| sq z8 (oMv rfl rfl) <| sgF rfl rfl (nT (byF Iff.rfl hc2)) rfl <| sgF rfl rfl (nT (byF Iff.rfl hc2)) rfl <| sgF rfl rfl (nT (byF Iff.rfl hc2)) rfl <| sq z8 (oPkT rfl rfl (nT (byF Iff.rfl hc2)) rfl) <| sq z8 (oMv rfl rfl) <| sgF rfl rfl rfl rfl <| sgF rfl rfl rfl rfl <| sgF rfl rfl rfl rfl <| sq z8 (oPkT rfl rfl rfl rfl) <| nl, (Eq.trans (b := (fun t_58_m8 : Bool => mk [(0, .v false [.im 2 (.row 4 (List.map e_S_Bond aList_0))]), (1, iv aPresses_1), (2, iv aBudget_2), (8, .v false [.own 8 0 0]), (9, iv x31.2.1), (10, iv x31.2.2), (11, .v false [.own 11 0 0]), (12, .v false [.own 12 0 0]), (13, iv x41.2.1), (14, iv x41.2.2), (58, bv t_58_m8)] [(8, some ⟨0, 0, false, false, false, false, [⟨.sh, 0, 0, .row 1 (List.map eI x31.1)⟩]⟩), (11, some ⟨0, 0, false, false, false, false, [⟨.sh, 0, 0, .row 4 (List.map e_S_Bond x36)⟩]⟩), (12, some ⟨0, 0, false, false, false, false, [⟨.sh, 0, 0, .row 1 (List.map eI x41.1)⟩]⟩)]) true) (by kernel_rfl) (congrArg (fun t_58_m8 : Bool => mk [(0, .v false [.im 2 (.row 4 (List.map e_S_Bond aList_0))]), (1, iv aPresses_1), (2, iv aBudget_2), (8, .v false [.own 8 0 0]), (9, iv x31.2.1), (10, iv x31.2.2), (11, .v false [.own 11 0 0]), (12, .v false [.own 12 0 0]), (13, iv x41.2.1), (14, iv x41.2.2), (58, bv t_58_m8)] [(8, some ⟨0, 0, false, false, false, false, [⟨.sh, 0, 0, .row 1 (List.map eI x31.1)⟩]⟩), (11, some ⟨0, 0, false, false, false, false, [⟨.sh, 0, 0, .row 4 (List.map e_S_Bond x36)⟩]⟩), (12, some ⟨0, 0, false, false, false, false, [⟨.sh, 0, 0, .row 1 (List.map eI x41.1)⟩]⟩)]) (by first | rfl | (simp [(byF Iff.rfl hc2)]; done) | (simp [(byF Iff.rfl hc2)]; omega))))⟩
    · refine Unw.seq ?_
      by_cases hc4 : (¬ (x47 = true) ∨ (x41.2.1 ≠ x31.2.1 ∨ x41.2.2 ≠ x31.2.2))
      · rw [if_pos hc4] at h
        refine Go.condT rfl ((iOr (iNot Iff.rfl) (iOr iNe iNe)).2 hc4) ?_
        refine Go.seq ?_
        refine Go.r0 c8 rfl rfl (sq z8 (oAsI rfl rfl) <| nl) ?_
        refine Unw.seq ?_
        refine Go.ret (Unw.ret ?_)
        cases h
        exact Fin_ret (fin_of rfl rF8 rfl (by kernel_rfl))
      · rw [if_neg hc4] at h
        refine Go.condF rfl (byF (iOr (iNot Iff.rfl) (iOr iNe iNe)) hc4) ?_
        refine Go.skip ?_
        refine Unw.seq ?_
        refine Go.seq ?_
        refine Go.seq ?_
        obtain ⟨x61, hx61, h⟩ := bs h
        obtain ⟨x62, hx62, h⟩ := bs h
        refine Go.r0 c8 rfl rfl (sq z8 (oMv rfl rfl) <| sq z8 (oMv rfl rfl) <| sq z8 (oCr (xs := [.v false [.im 2 _]]) (vs := [(false, [.own 61 0 0])]) (v := .v false [.own 61 0 0]) (c := ⟨.sh, 0, _⟩) (cs := []) (L_laws_toBondS hx61) (.inl rfl) rfl kF55_78 rfl (ppC rfl pp0) rfl rfl pb0 rfl rfl rfl) <| sq z8 (oCa (xs := [.v false [.own 11 0 0], .v false [.own 61 0 0]]) (vs := [(false, [.im 0 _])]) (v := .v false [.im 0 _]) (L_laws_eqBondS hx62) (.inl rfl) rfl kF57_81_81 rfl (ppC rfl (ppC rfl pp0)) rfl rfl pb0 rfl rfl rfl) <| sq z8 (oUn rfl rfl rfl) <| nl) ?_
        refine Unw.seq ?_
        by_cases hc5 : x62 = true
        · rw [if_pos hc5] at h
          refine Go.condF rfl (nF (Iff.rfl.2 hc5)) ?_
          refine Go.skip ?_
          refine Unw.seq ?_
          refine Go.seq ?_
          refine Go.r0 c8 rfl rfl (sq z8 (oAsI rfl rfl) <| nl) ?_
          refine Unw.seq ?_
          refine Go.seq ?_
          obtain ⟨x66, hx66, h⟩ := bs h
          refine Go.r0 c8 rfl rfl (sq z8 (oMv rfl rfl) <| sq z8 (oMv rfl rfl) <| sq z8 (oCa (xs := [.v false [.own 11 0 0], .v false [.im 0 _]]) (vs := [(false, [.im 0 _])]) (v := .v false [.im 0 _]) (L_laws_markBondS hx66) (.inl rfl) rfl kF58_81_3 rfl (ppC rfl (ppC rfl pp0)) rfl rfl (pbO rfl rfl rfl rfl pb0) rfl rfl rfl) <| sq z8 (oAsI rfl rfl) <| nl) ?_
          refine Unw.seq ?_
          refine Go.seq ?_
          refine Go.seq ?_
          obtain ⟨t_84_m14, hm17, h⟩ := bs h
          refine Go.rX c8 rfl rfl (st1 := mk [(0, .v false [.im 2 (.row 4 (List.map e_S_Bond aList_0))]), (1, iv aPresses_1), (2, iv aBudget_2), (8, .v false [.own 8 0 0]), (9, iv x31.2.1), (10, iv x31.2.2), (12, .v false [.own 12 0 0]), (13, iv x41.2.1), (14, iv x41.2.2), (15, iv x66.1)] [(8, some ⟨0, 0, false, false, false, false, [⟨.sh, 0, 0, .row 1 (List.map eI x31.1)⟩]⟩), (12, some ⟨0, 0, false, false, false, false, [⟨.sh, 0, 0, .row 1 (List.map eI x41.1)⟩]⟩)]) (by kernel_rfl) (mk [(0, .v false [.im 2 (.row 4 (List.map e_S_Bond aList_0))]), (1, iv aPresses_1), (2, iv aBudget_2), (8, .v false [.own 8 0 0]), (9, iv x31.2.1), (10, iv x31.2.2), (12, .v false [.own 12 0 0]), (84, bv t_84_m14)] [(8, some ⟨0, 0, false, false, false, false, [⟨.sh, 0, 0, .row 1 (List.map eI x31.1)⟩]⟩), (12, some ⟨0, 0, false, false, false, false, [⟨.sh, 0, 0, .row 1 (List.map eI x41.1)⟩]⟩)]) ?_ ?_
          · by_cases hc6 : x66.1 < 0
            · rw [if_pos hc6] at hm17
              cases hm17
              exact ⟨_, sq z8 (oMv rfl rfl) <| sq z8 (oBi rfl rfl rfl rfl) <| sq z8 (oMv rfl rfl) <| sgF rfl rfl (iDec.2 hc6) rfl <| sgF rfl rfl (iDec.2 hc6) rfl <| sgF rfl rfl (iDec.2 hc6) rfl <| sgF rfl rfl (iDec.2 hc6) rfl <| sq z8 (oPkT rfl rfl (iDec.2 hc6) rfl) <| sq z8 (oMv rfl rfl) <| sgF rfl rfl rfl rfl <| sgF rfl rfl rfl rfl <| sgF rfl rfl rfl rfl <| sq z8 (oPkT rfl rfl rfl rfl) <| sq z8 (oMv rfl rfl) <| sgF rfl rfl rfl rfl <| sgF rfl rfl rfl rfl <| sgF rfl rfl rfl rfl <| sq z8 (oPkT rfl rfl rfl rfl) <| nl, (by kernel_rfl)⟩
            · rw [if_neg hc6] at hm17
              obtain ⟨x72, hx72, hm17⟩ := bs hm17
              by_cases hc7 : x72 = true
              · rw [if_pos hc7] at hm17
                by_cases hc8 : x41.2.1 ≠ x31.2.1
                · rw [if_pos hc8] at hm17
                  cases hm17
                  exact ⟨_, sq z8 (oMv rfl rfl) <| sq z8 (oBi rfl rfl rfl rfl) <| sq z8 (oMv rfl rfl) <| sgT z8 rfl rfl (byF iDec hc6) (oMv rfl rfl) <| sgT z8 rfl rfl (byF iDec hc6) (oMv rfl rfl) <| sgT z8 rfl rfl (byF iDec hc6) (oCa (xs := [.v false [.own 12 0 0], .v false [.own 8 0 0]]) (vs := [(false, [.im 0 _])]) (v := .v false [.im 0 _]) (L_laws_eqInt64S hx72) (.inl rfl) rfl kF27_27_27 rfl (ppC rfl (ppC rfl pp0)) rfl rfl pb0 rfl rfl rfl) <| sgT z8 rfl rfl (byF iDec hc6) (oUn rfl rfl rfl) <| sq z8 (oPkF rfl rfl (byF iDec hc6) rfl) <| sq z8 (oMv rfl rfl) <| sgT z8 rfl rfl (nF (Iff.rfl.2 hc7)) (oMv rfl rfl) <| sgT z8 rfl rfl (nF (Iff.rfl.2 hc7)) (oMv rfl rfl) <| sgT z8 rfl rfl (nF (Iff.rfl.2 hc7)) (oBi rfl rfl rfl rfl) <| sq z8 (oPkF rfl rfl (nF (Iff.rfl.2 hc7)) rfl) <| sq z8 (oMv rfl rfl) <| sgF rfl rfl (iNe.2 hc8) rfl <| sgF rfl rfl (iNe.2 hc8) rfl <| sgF rfl rfl (iNe.2 hc8) rfl <| sq z8 (oPkT rfl rfl (iNe.2 hc8) rfl) <| nl, (by kernel_rfl)⟩
                · rw [if_neg hc8] at hm17
                  cases hm17
                  exact ⟨_, sq z8 (oMv rfl rfl) <| sq z8 (oBi rfl rfl rfl rfl) <| sq z8 (oMv rfl rfl) <| sgT z8 rfl rfl (byF iDec hc6) (oMv rfl rfl) <| sgT z8 rfl rfl (byF iDec hc6) (oMv rfl rfl) <| sgT z8 rfl rfl (byF iDec hc6) (oCa (xs := [.v false [.own 12 0 0], .v false [.own 8 0 0]]) (vs := [(false, [.im 0 _])]) (v := .v false [.im 0 _]) (L_laws_eqInt64S hx72) (.inl rfl) rfl kF27_27_27 rfl (ppC rfl (ppC rfl pp0)) rfl rfl pb0 rfl rfl rfl) <| sgT z8 rfl rfl (byF iDec hc6) (oUn rfl rfl rfl) <| sq z8 (oPkF rfl rfl (byF iDec hc6) rfl) <| sq z8 (oMv rfl rfl) <| sgT z8 rfl rfl (nF (Iff.rfl.2 hc7)) (oMv rfl rfl) <| sgT z8 rfl rfl (nF (Iff.rfl.2 hc7)) (oMv rfl rfl) <| sgT z8 rfl rfl (nF (Iff.rfl.2 hc7)) (oBi rfl rfl rfl rfl) <| sq z8 (oPkF rfl rfl (nF (Iff.rfl.2 hc7)) rfl) <| sq z8 (oMv rfl rfl) <| sgT z8 rfl rfl (byF iNe hc8) (oMv rfl rfl) <| sgT z8 rfl rfl (byF iNe hc8) (oMv rfl rfl) <| sgT z8 rfl rfl (byF iNe hc8) (oBi rfl rfl rfl rfl) <| sq z8 (oPkF rfl rfl (byF iNe hc8) rfl) <| nl, (by kernel_rfl)⟩
              · rw [if_neg hc7] at hm17
                cases hm17
                exact ⟨_, sq z8 (oMv rfl rfl) <| sq z8 (oBi rfl rfl rfl rfl) <| sq z8 (oMv rfl rfl) <| sgT z8 rfl rfl (byF iDec hc6) (oMv rfl rfl) <| sgT z8 rfl rfl (byF iDec hc6) (oMv rfl rfl) <| sgT z8 rfl rfl (byF iDec hc6) (oCa (xs := [.v false [.own 12 0 0], .v false [.own 8 0 0]]) (vs := [(false, [.im 0 _])]) (v := .v false [.im 0 _]) (L_laws_eqInt64S hx72) (.inl rfl) rfl kF27_27_27 rfl (ppC rfl (ppC rfl pp0)) rfl rfl pb0 rfl rfl rfl) <| sgT z8 rfl rfl (byF iDec hc6) (oUn rfl rfl rfl) <| sq z8 (oPkF rfl rfl (byF iDec hc6) rfl) <| sq z8 (oMv rfl rfl) <| sgF rfl rfl (nT (byF Iff.rfl hc7)) rfl <| sgF rfl rfl (nT (byF Iff.rfl hc7)) rfl <| sgF rfl rfl (nT (byF Iff.rfl hc7)) rfl <| sq z8 (oPkT rfl rfl (nT (byF Iff.rfl hc7)) rfl) <| sq z8 (oMv rfl rfl) <| sgF rfl rfl rfl rfl <| sgF rfl rfl rfl rfl <| sgF rfl rfl rfl rfl <| sq z8 (oPkT rfl rfl rfl rfl) <| nl, (by kernel_rfl)⟩
          · refine Unw.seq ?_
            by_cases hc9 : t_84_m14 = true
            · rw [if_pos hc9] at h
              refine Go.condT rfl (Iff.rfl.2 hc9) ?_
              refine Go.seq ?_
              refine Go.r0 c8 rfl rfl (sq z8 (oAsI rfl rfl) <| nl) ?_
              refine Unw.seq ?_
              refine Go.ret (Unw.ret ?_)
              cases h
              exact Fin_ret (fin_of rfl rF8 rfl (by kernel_rfl))
            · rw [if_neg hc9] at h
              refine Go.condF rfl (byF Iff.rfl hc9) ?_
              refine Go.skip ?_
              refine Unw.seq ?_
              refine Go.seq ?_
              refine Go.r0 c8 rfl rfl (sq z8 (oAsI rfl rfl) <| nl) ?_
              refine Unw.seq ?_
              refine Go.seq ?_
              obtain ⟨x87, hx87, h⟩ := bs h
              refine Go.r0 c8 rfl rfl (sq z8 (oMv rfl rfl) <| sq z8 (oMv rfl rfl) <| sq z8 (oCa (xs := [.v false [.own 12 0 0], .v false [.im 0 _]]) (vs := [(false, [.im 0 _])]) (v := .v false [.im 0 _]) (L_laws_markInt64S hx87) (.inl rfl) rfl kF30_27_3 rfl (ppC rfl (ppC rfl pp0)) rfl rfl (pbO rfl rfl rfl rfl pb0) rfl rfl rfl) <| sq z8 (oAsI rfl rfl) <| nl) ?_
              refine Unw.seq ?_
              refine Go.seq ?_
              refine Go.r1 c8 rfl rfl (st1 := mk [(0, .v false [.im 2 (.row 4 (List.map e_S_Bond aList_0))]), (1, iv aPresses_1), (2, iv aBudget_2), (8, .v false [.own 8 0 0]), (9, iv x31.2.1), (10, iv x31.2.2), (12, .v false [.own 12 0 0]), (16, iv x87.1)] [(8, some ⟨0, 0, false, false, false, false, [⟨.sh, 0, 0, .row 1 (List.map eI x31.1)⟩]⟩), (12, some ⟨0, 0, false, false, false, false, [⟨.sh, 0, 0, .row 1 (List.map eI x87.2)⟩]⟩)]) (by kernel_rfl) (sq z8 (oAsI rfl rfl) <| nl) ?_
              refine Unw.seq ?_
              refine Go.seq ?_
              obtain ⟨x90, hx90, h⟩ := bs h
              refine Go.r0 c8 rfl rfl (sq z8 (oMv rfl rfl) <| sq z8 (oMv rfl rfl) <| sq z8 (oCa (xs := [.v false [.own 12 0 0], .v false [.im 0 _]]) (vs := [(false, [.im 0 _])]) (v := .v false [.im 0 _]) (L_laws_heldInt64S hx90) (.inl rfl) rfl kF31_27_3 rfl (ppC rfl (ppC rfl pp0)) rfl rfl pb0 rfl rfl rfl) <| sq z8 (oAsI rfl rfl) <| nl) ?_
              refine Unw.seq ?_
              refine Go.seq ?_
              refine Go.seq ?_
              refine Go.r0 c8 rfl rfl (sq z8 (oMv rfl rfl) <| sq z8 (oBi rfl rfl rfl rfl) <| nl) ?_
              refine Unw.seq ?_
              by_cases hc10 : x90 < 0
              · rw [if_pos hc10] at h
                refine Go.condT rfl (iDec.2 hc10) ?_
                refine Go.seq ?_
                refine Go.r0 c8 rfl rfl (sq z8 (oAsI rfl rfl) <| nl) ?_
                refine Unw.seq ?_
                refine Go.ret (Unw.ret ?_)
                cases h
                exact Fin_ret (fin_of rfl rF8 rfl (by kernel_rfl))
              · rw [if_neg hc10] at h
                refine Go.condF rfl (byF iDec hc10) ?_
                refine Go.skip ?_
                refine Unw.seq ?_
                refine Go.seq ?_
                refine Go.seq ?_
                refine Go.r0 c8 rfl rfl (sq z8 (oMv rfl rfl) <| sq z8 (oMv rfl rfl) <| sq z8 (oBi rfl rfl rfl rfl) <| nl) ?_
                refine Unw.seq ?_
                by_cases hc11 : x90 ≠ x87.1
                · rw [if_pos hc11] at h
                  refine Go.condT rfl (iNe.2 hc11) ?_
                  refine Go.seq ?_
                  refine Go.r0 c8 rfl rfl (sq z8 (oAsI rfl rfl) <| nl) ?_
                  refine Unw.seq ?_
                  refine Go.ret (Unw.ret ?_)
                  cases h
                  exact Fin_ret (fin_of rfl rF8 rfl (by kernel_rfl))
                · rw [if_neg hc11] at h
                  refine Go.condF rfl (byF iNe hc11) ?_
                  refine Go.skip ?_
                  refine Unw.seq ?_
                  refine Go.seq ?_
                  obtain ⟨x98, hx98, h⟩ := bs h
                  obtain ⟨x101, hx101, h⟩ := bs h
                  refine Go.r0 c8 rfl rfl (sq z8 (oMv rfl rfl) <| sq z8 (oCr (xs := [.v false [.im 2 _]]) (vs := [(false, [.own 98 0 0])]) (v := .v false [.own 98 0 0]) (c := ⟨.sh, 0, _⟩) (cs := []) (L_laws_toBondS hx98) (.inl rfl) rfl kF55_78 rfl (ppC rfl pp0) rfl rfl pb0 rfl rfl rfl) <| sq z8 (oMv rfl rfl) <| sq z8 (oMv rfl rfl) <| sq z8 (oCr (xs := [.v false [.own 98 0 0], .v false [.im 0 _], .v false [.im 0 _]]) (vs := [(false, [.own 101 0 0]), (false, [.im 0 _]), (false, [.im 0 _])]) (v := .tup [(false, [.own 101 0 0]), (false, [.im 0 _]), (false, [.im 0 _])]) (c := ⟨.sh, 0, _⟩) (cs := []) (L_impl_BestGlueOrder hx101) (.inl rfl) rfl kF56_81_2_2 rfl (ppC rfl (ppC rfl (ppC rfl pp0))) rfl rfl pb0 rfl rfl rfl) <| sq z8 (oMvT rfl rfl) <| sq z8 (oEx rfl rfl rfl) <| sq z8 (oEx rfl rfl rfl) <| sq z8 (oEx rfl rfl rfl) <| sq z8 (oAsO rfl rfl rfl rfl rfl) <| sq z8 (oAsI rfl rfl) <| sq z8 (oAsI rfl rfl) <| nl) ?_
                  refine Unw.seq ?_
                  refine Go.seq ?_
                  refine Go.seq ?_
                  obtain ⟨x107, hx107, h⟩ := bs h
                  refine Go.rX c8 rfl rfl rfl (mk [(12, .v false [.own 12 0 0]), (16, iv x87.1), (118, bv ((!x107) || ((x101.2.1 != x31.2.1) || (x101.2.2 != x31.2.2))))] [(12, some ⟨0, 0, false, false, false, false, [⟨.sh, 0, 0, .row 1 (List.map eI x87.2)⟩]⟩)]) ?_ ?_
                  · by_cases hc12 : x107 = true
                    · by_cases hc13 : x101.2.1 ≠ x31.2.1
                      · exact ⟨_, sq z8 (oMv rfl rfl) <| sq z8 (oMv rfl rfl) <| sq z8 (oCa (xs := [.v false [.own 18 0 0], .v false [.own 8 0 0]]) (vs := [(false, [.im 0 _])]) (v := .v false [.im 0 _]) (L_laws_eqInt64S hx107) (.inl rfl) rfl kF27_27_27 rfl (ppC rfl (ppC rfl pp0)) rfl rfl pb0 rfl rfl rfl) <| sq z8 (oUn rfl rfl rfl) <| sq z8 (oMv rfl rfl) <| sgT z8 rfl rfl (nF (Iff.rfl.2 hc12)) (oMv rfl rfl) <| sgT z8 rfl rfl (nF (Iff.rfl.2 hc12)) (oMv rfl rfl) <| sgT z8 rfl rfl (nF (Iff.rfl.2 hc12)) (oBi rfl rfl rfl rfl) <| sq z8 (oPkF rfl rfl (nF (Iff.rfl.2 hc12)) rfl) <| sq z8 (oMv rfl rfl) <| sgF rfl rfl (iNe.2 hc13) rfl <| sgF rfl rfl (iNe.2 hc13) rfl <| sgF rfl rfl (iNe.2 hc13) rfl <| sq z8 (oPkT rfl rfl (iNe.2 hc13) rfl) <| nl, (Eq.trans (b := (fun t_118_m25 : Bool => mk [(12, .v false [.own 12 0 0]), (16, iv x87.1), (118, bv t_118_m25)] [(12, some ⟨0, 0, false, false, false, false, [⟨.sh, 0, 0, .row 1 (List.map eI x87.2)⟩]⟩)]) true) (by kernel_rfl) (congrArg (fun t_118_m25 : Bool => mk [(12, .v false [.own 12 0 0]), (16, iv x87.1), (118, bv t_118_m25)] [(12, some ⟨0, 0, false, false, false, false, [⟨.sh, 0, 0, .row 1 (List.map eI x87.2)⟩]⟩)]) (by first | rfl | (simp [(Iff.rfl.2 hc12), (iNe.2 hc13)]; done) | (simp [(Iff.rfl.2 hc12), (iNe.2 hc13)]; omega))))⟩
                      · exact ⟨_, sq z8 (oMv rfl rfl) <| sq z8 (oMv rfl rfl) <| sq z8 (oCa (xs := [.v false [.own 18 0 0], .v false [.own 8 0 0]]) (vs := [(false, [.im 0 _])]) (v := .v false [.im 0 _]) (L_laws_eqInt64S hx107) (.inl rfl) rfl kF27_27_27 rfl (ppC rfl (ppC rfl pp0)) rfl rfl pb0 rfl rfl rfl) <| sq z8 (oUn rfl rfl rfl) <| sq z8 (oMv rfl rfl) <| sgT z8 rfl rfl (nF (Iff.rfl.2 hc12)) (oMv rfl rfl) <| sgT z8 rfl rfl (nF (Iff.rfl.2 hc12)) (oMv rfl rfl) <| sgT z8 rfl rfl (nF (Iff.rfl.2 hc12)) (oBi rfl rfl rfl rfl) <| sq z8 (oPkF rfl rfl (nF (Iff.rfl.2 hc12)) rfl) <| sq z8 (oMv rfl rfl) <| sgT z8 rfl rfl (byF iNe hc13) (oMv rfl rfl) <| sgT z8 rfl rfl (byF iNe hc13) (oMv rfl rfl) <| sgT z8 rfl rfl (byF iNe hc13) (oBi rfl rfl rfl rfl) <| sq z8 (oPkF rfl rfl (byF iNe hc13) rfl) <| nl, (Eq.trans (b := (fun t_118_m25 : Bool => mk [(12, .v false [.own 12 0 0]), (16, iv x87.1), (118, bv t_118_m25)] [(12, some ⟨0, 0, false, false, false, false, [⟨.sh, 0, 0, .row 1 (List.map eI x87.2)⟩]⟩)]) (x101.2.2 != x31.2.2)) (by kernel_rfl) (congrArg (fun t_118_m25 : Bool => mk [(12, .v false [.own 12 0 0]), (16, iv x87.1), (118, bv t_118_m25)] [(12, some ⟨0, 0, false, false, false, false, [⟨.sh, 0, 0, .row 1 (List.map eI x87.2)⟩]⟩)]) (by first | rfl | (simp [(Iff.rfl.2 hc12), (byF iNe hc13)]; done) | (simp [(Iff.rfl.2 hc12), (byF iNe hc13)]; omega))))⟩
                    · exact ⟨_, sq z8 (oMv rfl rfl) <| sq z8 (oMv rfl rfl) <| sq z8 (oCa (xs := [.v false [.own 18 0 0], .v false [.own 8 0 0]]) (vs := [(false, [.im 0 _])]) (v := .v false [.im 0 _]) (L_laws_eqInt64S hx107) (.inl rfl) rfl kF27_27_27 rfl (ppC rfl (ppC rfl pp0)) rfl rfl pb0 rfl rfl rfl) <| sq z8 (oUn rfl rfl rfl) <| sq z8 (oMv rfl rfl) <| sgF rfl rfl (nT (byF Iff.rfl hc12)) rfl <| sgF rfl rfl (nT (byF Iff.rfl hc12)) rfl <| sgF rfl rfl (nT (byF Iff.rfl hc12)) rfl <| sq z8 (oPkT rfl rfl (nT (byF Iff.rfl hc12)) rfl) <| sq z8 (oMv rfl rfl) <| sgF rfl rfl rfl rfl <| sgF rfl rfl rfl rfl <| sgF rfl rfl rfl rfl <| sq z8 (oPkT rfl rfl rfl rfl) <| nl, (Eq.trans (b := (fun t_118_m25 : Bool => mk [(12, .v false [.own 12 0 0]), (16, iv x87.1), (118, bv t_118_m25)] [(12, some ⟨0, 0, false, false, false, false, [⟨.sh, 0, 0, .row 1 (List.map eI x87.2)⟩]⟩)]) true) (by kernel_rfl) (congrArg (fun t_118_m25 : Bool => mk [(12, .v false [.own 12 0 0]), (16, iv x87.1), (118, bv t_118_m25)] [(12, some ⟨0, 0, false, false, false, false, [⟨.sh, 0, 0, .row 1 (List.map eI x87.2)⟩]⟩)]) (by first | rfl | (simp [(byF Iff.rfl hc12)]; done) | (simp [(byF Iff.rfl hc12)]; omega))))⟩
                  · refine Unw.seq ?_
                    by_cases hc14 : (¬ (x107 = true) ∨ (x101.2.1 ≠ x31.2.1 ∨ x101.2.2 ≠ x31.2.2))
                    · rw [if_pos hc14] at h
                      refine Go.condT rfl ((iOr (iNot Iff.rfl) (iOr iNe iNe)).2 hc14) ?_
                      refine Go.seq ?_
                      refine Go.r0 c8 rfl rfl (sq z8 (oAsI rfl rfl) <| nl) ?_
                      refine Unw.seq ?_
                      refine Go.ret (Unw.ret ?_)
                      cases h
                      exact Fin_ret (fin_of rfl rF8 rfl (by kernel_rfl))
                    · rw [if_neg hc14] at h
                      refine Go.condF rfl (byF (iOr (iNot Iff.rfl) (iOr iNe iNe)) hc14) ?_
                      refine Go.skip ?_
                      refine Unw.seq ?_
                      refine Go.seq ?_
                      refine Go.r0 c8 rfl rfl (sq z8 (oAsI rfl rfl) <| nl) ?_
                      refine Unw.seq ?_
                      refine Go.seq ?_
                      obtain ⟨x121, hx121, h⟩ := bs h
                      refine Go.r0 c8 rfl rfl (sq z8 (oMv rfl rfl) <| sq z8 (oMv rfl rfl) <| sq z8 (oCa (xs := [.v false [.own 12 0 0], .v false [.im 0 _]]) (vs := [(false, [.im 0 _])]) (v := .v false [.im 0 _]) (L_laws_heldInt64S hx121) (.inl rfl) rfl kF31_27_3 rfl (ppC rfl (ppC rfl pp0)) rfl rfl pb0 rfl rfl rfl) <| sq z8 (oAsI rfl rfl) <| nl) ?_
                      refine Unw.seq ?_
                      refine Go.seq ?_
                      refine Go.seq ?_
                      refine Go.r0 c8 rfl rfl (sq z8 (oMv rfl rfl) <| sq z8 (oBi rfl rfl rfl rfl) <| nl) ?_
                      refine Unw.seq ?_
                      by_cases hc15 : x121 < 0
                      · rw [if_pos hc15] at h
                        refine Go.condT rfl (iDec.2 hc15) ?_
                        refine Go.seq ?_
                        refine Go.r0 c8 rfl rfl (sq z8 (oAsI rfl rfl) <| nl) ?_
                        refine Unw.seq ?_
                        refine Go.ret (Unw.ret ?_)
                        cases h
                        exact Fin_ret (fin_of rfl rF8 rfl (by kernel_rfl))
                      · rw [if_neg hc15] at h
                        refine Go.condF rfl (byF iDec hc15) ?_
                        refine Go.skip ?_
                        refine Unw.seq ?_
                        refine Go.seq ?_
                        refine Go.seq ?_
                        refine Go.r0 c8 rfl rfl (sq z8 (oMv rfl rfl) <| sq z8 (oMv rfl rfl) <| sq z8 (oBi rfl rfl rfl rfl) <| nl) ?_
                        refine Unw.seq ?_
                        by_cases hc16 : x121 ≠ x87.1
                        · rw [if_pos hc16] at h
                          refine Go.condT rfl (iNe.2 hc16) ?_
                          refine Go.seq ?_
                          refine Go.r0 c8 rfl rfl (sq z8 (oAsI rfl rfl) <| nl) ?_
                          refine Unw.seq ?_
                          refine Go.ret (Unw.ret ?_)
                          cases h
                          exact Fin_ret (fin_of rfl rF8 rfl (by kernel_rfl))
                        · rw [if_neg hc16] at h
                          refine Go.condF rfl (byF iNe hc16) ?_
                          refine Go.skip ?_
                          refine Unw.seq ?_
                          refine Go.seq ?_
                          refine Go.r0 c8 rfl rfl (sq z8 (oAsI rfl rfl) <| nl) ?_
                          refine Unw.seq ?_
                          refine Go.ret (Unw.ret ?_)
                          cases h
                          exact Fin_ret (fin_of rfl rF8 rfl (by kernel_rfl))
        · rw [if_neg hc5] at h
          refine Go.condT rfl (nT (byF Iff.rfl hc5)) ?_
          refine Go.seq ?_
          refine Go.r0 c8 rfl rfl (sq z8 (oAsI rfl rfl) <| nl) ?_
          refine Unw.seq ?_
          refine Go.ret (Unw.ret ?_)
          cases h
          exact Fin_ret (fin_of rfl rF8 rfl (by kernel_rfl))
end
end Go.Proofs.Ytigjhjlkdamncaa
