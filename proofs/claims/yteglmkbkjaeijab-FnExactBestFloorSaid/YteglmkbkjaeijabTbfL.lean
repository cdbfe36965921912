/- The machine answers, at each function of the program that is reached, what its plain function answers: a further part. Conditions: none. -/
import Derived.Test.YteglmkbkjaeijabTbfLa
namespace Go.Proofs.Yteglmkbkjaeijab
open Go Go.Sim Go.Pw Go.Proofs
set_option linter.unusedVariables false
set_option linter.unusedSimpArgs false
set_option maxRecDepth 100000
set_option maxHeartbeats 4000000
noncomputable section

theorem L_impl_floorSearch_run_F {self : (S_floorSearch × (List Int) × (Option S_row) × Int) → Option (Bool × S_floorSearch)} (ih : ∀ {s_0 : S_floorSearch} {firsts_1 : (List Int)} {before_2 : (Option S_row)} {sum_3 : Int} {r : (Bool × S_floorSearch)}, self (s_0, firsts_1, before_2, sum_3) = some r → FL Try.prog cfg 38 [.ptr true [(.imm, .sc (.int .i64 s_0.room.Width)), (.imm, .sc (.int .i64 s_0.room.Length)), (.imm, .sc (.int .i64 s_0.stock.Board)), (.imm, .sc (.int .i64 s_0.stock.Wide)), (.imm, .sc (.int .i64 s_0.stock.Least)), (.imm, .sc (.int .i64 s_0.stock.Stagger)), (.imm, .sc (.int .i64 s_0.step)), (.imm, .sc (.int .i64 s_0.rows)), (.imm, .sc (.int .i64 s_0.left)), (.imm, .sc (.bool s_0.found)), (.sh, .row 1 (List.map eI s_0.best)), (.imm, .sc (.int .i64 s_0.least))], .mv 1 (List.map eI firsts_1), .im 2 false [eO e_S_row before_2], .im 2 false [.sc (.int .i64 sum_3)]] = some ([(false, [.im 0 (.sc (.bool r.1))])], [.ptr true [(.imm, .sc (.int .i64 r.2.room.Width)), (.imm, .sc (.int .i64 r.2.room.Length)), (.imm, .sc (.int .i64 r.2.stock.Board)), (.imm, .sc (.int .i64 r.2.stock.Wide)), (.imm, .sc (.int .i64 r.2.stock.Least)), (.imm, .sc (.int .i64 r.2.stock.Stagger)), (.imm, .sc (.int .i64 r.2.step)), (.imm, .sc (.int .i64 r.2.rows)), (.imm, .sc (.int .i64 r.2.left)), (.imm, .sc (.bool r.2.found)), (.sh, .row 1 (List.map eI r.2.best)), (.imm, .sc (.int .i64 r.2.least))]])) {s_0 : S_floorSearch} {firsts_1 : (List Int)} {before_2 : (Option S_row)} {sum_3 : Int} {r : (Bool × S_floorSearch)} (h : impl_floorSearch_run_F self s_0 firsts_1 before_2 sum_3 = some r) : FL Try.prog cfg 38 [.ptr true [(.imm, .sc (.int .i64 s_0.room.Width)), (.imm, .sc (.int .i64 s_0.room.Length)), (.imm, .sc (.int .i64 s_0.stock.Board)), (.imm, .sc (.int .i64 s_0.stock.Wide)), (.imm, .sc (.int .i64 s_0.stock.Least)), (.imm, .sc (.int .i64 s_0.stock.Stagger)), (.imm, .sc (.int .i64 s_0.step)), (.imm, .sc (.int .i64 s_0.rows)), (.imm, .sc (.int .i64 s_0.left)), (.imm, .sc (.bool s_0.found)), (.sh, .row 1 (List.map eI s_0.best)), (.imm, .sc (.int .i64 s_0.least))], .mv 1 (List.map eI firsts_1), .im 2 false [eO e_S_row before_2], .im 2 false [.sc (.int .i64 sum_3)]] = some ([(false, [.im 0 (.sc (.bool r.1))])], [.ptr true [(.imm, .sc (.int .i64 r.2.room.Width)), (.imm, .sc (.int .i64 r.2.room.Length)), (.imm, .sc (.int .i64 r.2.stock.Board)), (.imm, .sc (.int .i64 r.2.stock.Wide)), (.imm, .sc (.int .i64 r.2.stock.Least)), (.imm, .sc (.int .i64 r.2.stock.Stagger)), (.imm, .sc (.int .i64 r.2.step)), (.imm, .sc (.int .i64 r.2.rows)), (.imm, .sc (.int .i64 r.2.left)), (.imm, .sc (.bool r.2.found)), (.sh, .row 1 (List.map eI r.2.best)), (.imm, .sc (.int .i64 r.2.least))]]) := by
  unfold impl_floorSearch_run_F at h
  refine FL_goS (A := [(0, .v false [.mp 0 0 0]), (1, .v false [.own 1 0 0]), (2, .v false [.im 2 (eO e_S_row before_2)]), (3, .v false [.im 2 (.sc (.int .i64 sum_3))])]) (B := [(0, some ⟨0, 0, true, true, false, true, [⟨.imm, 0, 0, .sc (.int .i64 s_0.room.Width)⟩, ⟨.imm, 0, 0, .sc (.int .i64 s_0.room.Length)⟩, ⟨.imm, 0, 0, .sc (.int .i64 s_0.stock.Board)⟩, ⟨.imm, 0, 0, .sc (.int .i64 s_0.stock.Wide)⟩, ⟨.imm, 0, 0, .sc (.int .i64 s_0.stock.Least)⟩, ⟨.imm, 0, 0, .sc (.int .i64 s_0.stock.Stagger)⟩, ⟨.imm, 0, 0, .sc (.int .i64 s_0.step)⟩, ⟨.imm, 0, 0, .sc (.int .i64 s_0.rows)⟩, ⟨.imm, 0, 0, .sc (.int .i64 s_0.left)⟩, ⟨.imm, 0, 0, .sc (.bool s_0.found)⟩, ⟨.sh, 0, 0, .row 1 (List.map eI s_0.best)⟩, ⟨.imm, 0, 0, .sc (.int .i64 s_0.least)⟩]⟩), (1, some ⟨0, 0, false, false, false, false, [⟨.sh, 0, 0, .row 1 (List.map eI firsts_1)⟩]⟩), (2, none), (3, none)]) (nt := 115) rfl rfl Try.func38 rfl rfl rfl rfl ?_
  refine Go.seq ?_
  refine Go.r0 c38 rfl rfl (sq z38 (oAsI rfl rfl) <| nl) ?_
  refine Unw.seq ?_
  refine Go.seq ?_
  refine Go.seq ?_
  refine Go.r0 c38 rfl rfl (sq z38 (oMv rfl rfl) <| sq z38 (oLnO rfl rfl uF26 rfl rfl rfl (fun e => nomatch e)) <| sq z38 (oMv rfl rfl) <| sq z38 (oNl rfl rfl rfl) <| sq z38 (oFA (r' := .mp 0 0 7) rfl fF72_3 rfl rfl) <| sq z38 (oLd (cs := [.im 0 _]) rfl tF3 rfl rfl) <| sq z38 (oBi rfl rfl rfl rfl) <| nl) ?_
  refine Unw.seq ?_
  by_cases hc1 : (firsts_1.length : Int) = s_0.rows
  · rw [if_pos hc1] at h
    refine Go.condT rfl (iEq.2 hc1) ?_
    refine Go.seq ?_
    refine Go.r0 c38 rfl rfl (sq z38 (oMv rfl rfl) <| sq z38 (oMv rfl rfl) <| sq z38 (oMv rfl rfl) <| sq z38 (oMv rfl rfl) <| sq z38 (oMv rfl rfl) <| sq z38 (oNl rfl rfl rfl) <| sq z38 (oFA (r' := .mp 0 0 9) rfl fF72_5 rfl rfl) <| sq z38 (oSt tF4 rfl rfl rfl (tkI tk0) rfl rfl rfl) <| sq z38 (oNl rfl rfl rfl) <| sq z38 (oFA (r' := .mp 0 0 10) rfl fF72_6 rfl rfl) <| sq z38 (oSt tF26 rfl rfl rfl (tkO rfl rfl tk0) rfl rfl rfl) <| sq z38 (oNl rfl rfl rfl) <| sq z38 (oFA (r' := .mp 0 0 11) rfl fF72_7 rfl rfl) <| sq z38 (oSt tF2 rfl rfl rfl (tkI tk0) rfl rfl rfl) <| nl) ?_
    refine Unw.seq ?_
    refine Go.seq ?_
    refine Go.r1 c38 rfl rfl (st1 := mk [] [(0, some ⟨0, 0, true, true, false, true, [⟨.imm, 0, 0, .sc (.int .i64 s_0.room.Width)⟩, ⟨.imm, 0, 0, .sc (.int .i64 s_0.room.Length)⟩, ⟨.imm, 0, 0, .sc (.int .i64 s_0.stock.Board)⟩, ⟨.imm, 0, 0, .sc (.int .i64 s_0.stock.Wide)⟩, ⟨.imm, 0, 0, .sc (.int .i64 s_0.stock.Least)⟩, ⟨.imm, 0, 0, .sc (.int .i64 s_0.stock.Stagger)⟩, ⟨.imm, 0, 0, .sc (.int .i64 s_0.step)⟩, ⟨.imm, 0, 0, .sc (.int .i64 s_0.rows)⟩, ⟨.imm, 0, 0, .sc (.int .i64 s_0.left)⟩, ⟨.imm, 0, 0, .sc (.bool true)⟩, ⟨.sh, 0, 0, .row 1 (List.map eI firsts_1)⟩, ⟨.imm, 0, 0, .sc (.int .i64 sum_3)⟩]⟩)]) (by kernel_rfl) (sq z38 (oAsI rfl rfl) <| nl) ?_
    refine Unw.seq ?_
    refine Go.ret (Unw.ret ?_)
    cases h
    exact Fin_ret (fin_of rfl rF38 rfl (by kernel_rfl))
  · rw [if_neg hc1] at h
    refine Go.condF rfl (byF iEq hc1) ?_
    refine Go.skip ?_
    refine Unw.seq ?_
    refine Go.seq ?_
    refine Go.seq ?_
    refine Go.r0 c38 rfl rfl (sq z38 (oMv rfl rfl) <| sq z38 (oNl rfl rfl rfl) <| sq z38 (oFA (r' := .mp 0 0 2) rfl fF72_1 rfl rfl) <| sq z38 (oFA (r' := .mp 0 0 2) rfl fF31_0 rfl rfl) <| sq z38 (oLd (cs := [.im 0 _]) rfl tF2 rfl rfl) <| sq z38 (oAsI rfl rfl) <| nl) ?_
    refine Unw.seq ?_
    refine Go.block ?_
    obtain ⟨o, hl, h⟩ := bs h
    refine Go.lp c38 rfl _ (fun (s : (Int × Int × Int × Int × Int × Int × Int × Int × Int × Int × Bool × (List Int) × Int)) => match s with | (first_9_l5, s_o0_0_l5, s_o0_1_l5, s_o0_2_l5, s_o0_3_l5, s_o0_4_l5, s_o0_5_l5, s_o0_6_l5, s_o0_7_l5, s_o0_8_l5, s_o0_9_l5, s_o0_10_l5, s_o0_11_l5) => mk [(0, .v false [.mp 0 0 0]), (1, .v false [.own 1 0 0]), (2, .v false [.im (tagOf 2 (eO e_S_row before_2)) (eO e_S_row before_2)]), (3, iv sum_3), (9, iv first_9_l5)] [(0, some ⟨0, 0, true, true, false, true, [⟨.imm, 0, 0, .sc (.int .i64 s_o0_0_l5)⟩, ⟨.imm, 0, 0, .sc (.int .i64 s_o0_1_l5)⟩, ⟨.imm, 0, 0, .sc (.int .i64 s_o0_2_l5)⟩, ⟨.imm, 0, 0, .sc (.int .i64 s_o0_3_l5)⟩, ⟨.imm, 0, 0, .sc (.int .i64 s_o0_4_l5)⟩, ⟨.imm, 0, 0, .sc (.int .i64 s_o0_5_l5)⟩, ⟨.imm, 0, 0, .sc (.int .i64 s_o0_6_l5)⟩, ⟨.imm, 0, 0, .sc (.int .i64 s_o0_7_l5)⟩, ⟨.imm, 0, 0, .sc (.int .i64 s_o0_8_l5)⟩, ⟨.imm, 0, 0, .sc (.bool s_o0_9_l5)⟩, ⟨.sh, 0, 0, .row 1 (List.map eI s_o0_10_l5)⟩, ⟨.imm, 0, 0, .sc (.int .i64 s_o0_11_l5)⟩]⟩), (1, some ⟨0, 0, false, false, false, false, [⟨.sh, 0, 0, .row 1 (List.map eI firsts_1)⟩]⟩)]) (fun (o : ((Int × Int × Int × Int × Int × Int × Int × Int × Int × Bool × (List Int) × Int) ⊕ (Bool × S_floorSearch))) (p : Ex × St) => match o with | (.inl (s_o0_0_e0_5, s_o0_1_e0_5, s_o0_2_e0_5, s_o0_3_e0_5, s_o0_4_e0_5, s_o0_5_e0_5, s_o0_6_e0_5, s_o0_7_e0_5, s_o0_8_e0_5, s_o0_9_e0_5, s_o0_10_e0_5, s_o0_11_e0_5)) => p.1 = .exit 0 ∧ p.2.norm ([], [0]) = mk [] [(0, some ⟨0, 0, true, true, false, true, [⟨.imm, 0, 0, .sc (.int .i64 s_o0_0_e0_5)⟩, ⟨.imm, 0, 0, .sc (.int .i64 s_o0_1_e0_5)⟩, ⟨.imm, 0, 0, .sc (.int .i64 s_o0_2_e0_5)⟩, ⟨.imm, 0, 0, .sc (.int .i64 s_o0_3_e0_5)⟩, ⟨.imm, 0, 0, .sc (.int .i64 s_o0_4_e0_5)⟩, ⟨.imm, 0, 0, .sc (.int .i64 s_o0_5_e0_5)⟩, ⟨.imm, 0, 0, .sc (.int .i64 s_o0_6_e0_5)⟩, ⟨.imm, 0, 0, .sc (.int .i64 s_o0_7_e0_5)⟩, ⟨.imm, 0, 0, .sc (.int .i64 s_o0_8_e0_5)⟩, ⟨.imm, 0, 0, .sc (.bool s_o0_9_e0_5)⟩, ⟨.sh, 0, 0, .row 1 (List.map eI s_o0_10_e0_5)⟩, ⟨.imm, 0, 0, .sc (.int .i64 s_o0_11_e0_5)⟩]⟩)] | (.inr r2) => p.1 = .ret ∧ fin Try.prog cfg 38 Try.f38 [.ptr true [(.imm, .sc (.int .i64 s_0.room.Width)), (.imm, .sc (.int .i64 s_0.room.Length)), (.imm, .sc (.int .i64 s_0.stock.Board)), (.imm, .sc (.int .i64 s_0.stock.Wide)), (.imm, .sc (.int .i64 s_0.stock.Least)), (.imm, .sc (.int .i64 s_0.stock.Stagger)), (.imm, .sc (.int .i64 s_0.step)), (.imm, .sc (.int .i64 s_0.rows)), (.imm, .sc (.int .i64 s_0.left)), (.imm, .sc (.bool s_0.found)), (.sh, .row 1 (List.map eI s_0.best)), (.imm, .sc (.int .i64 s_0.least))], .mv 1 (List.map eI firsts_1), .im 2 false [eO e_S_row before_2], .im 2 false [.sc (.int .i64 sum_3)]] p.2 = some ([(false, [.im 0 (.sc (.bool r2.1))])], [.ptr true [(.imm, .sc (.int .i64 r2.2.room.Width)), (.imm, .sc (.int .i64 r2.2.room.Length)), (.imm, .sc (.int .i64 r2.2.stock.Board)), (.imm, .sc (.int .i64 r2.2.stock.Wide)), (.imm, .sc (.int .i64 r2.2.stock.Least)), (.imm, .sc (.int .i64 r2.2.stock.Stagger)), (.imm, .sc (.int .i64 r2.2.step)), (.imm, .sc (.int .i64 r2.2.rows)), (.imm, .sc (.int .i64 r2.2.left)), (.imm, .sc (.bool r2.2.found)), (.sh, .row 1 (List.map eI r2.2.best)), (.imm, .sc (.int .i64 r2.2.least))]])) hl (by kernel_rfl) ?_ ?_ ?_
    · intro o p hp e
      rcases o with ⟨s_o0_0_e0_5, s_o0_1_e0_5, s_o0_2_e0_5, s_o0_3_e0_5, s_o0_4_e0_5, s_o0_5_e0_5, s_o0_6_e0_5, s_o0_7_e0_5, s_o0_8_e0_5, s_o0_9_e0_5, s_o0_10_e0_5, s_o0_11_e0_5⟩ | r2 <;> exact nomatch (hp.1.symm.trans e)
    · rintro ⟨first_9_l5, s_o0_0_l5, s_o0_1_l5, s_o0_2_l5, s_o0_3_l5, s_o0_4_l5, s_o0_5_l5, s_o0_6_l5, s_o0_7_l5, s_o0_8_l5, s_o0_9_l5, s_o0_10_l5, s_o0_11_l5⟩ o h
      unfold impl_floorSearch_run_l5 at h
      dsimp only at h
      refine Go.seq ?_
      refine Go.seq ?_
      refine Go.r0 c38 rfl rfl (sq z38 (oMv rfl rfl) <| sq z38 (oMv rfl rfl) <| sq z38 (oNl rfl rfl rfl) <| sq z38 (oFA (r' := .mp 0 0 2) rfl fF72_1 rfl rfl) <| sq z38 (oFA (r' := .mp 0 0 4) rfl fF31_2 rfl rfl) <| sq z38 (oLd (cs := [.im 0 _]) rfl tF2 rfl rfl) <| sq z38 (oBi rfl rfl rfl rfl) <| nl) ?_
      refine Unw.seq ?_
      by_cases hc22 : first_9_l5 ≥ s_o0_4_l5
      · rw [if_pos hc22] at h
        refine Go.condT rfl (iDec.2 hc22) ?_
        refine Go.skip ?_
        refine Unw.seq ?_
        refine Go.seq ?_
        refine Go.join (fun st => ∃ s_o0_0_r6, ∃ s_o0_1_r6, ∃ s_o0_2_r6, ∃ s_o0_3_r6, ∃ s_o0_4_r6, ∃ s_o0_5_r6, ∃ s_o0_6_r6, ∃ s_o0_7_r6, ∃ s_o0_8_r6, ∃ s_o0_9_r6, ∃ s_o0_10_r6, ∃ s_o0_11_r6, impl_floorSearch_run_k6 self first_9_l5 s_o0_0_r6 s_o0_1_r6 s_o0_2_r6 s_o0_3_r6 s_o0_4_r6 s_o0_5_r6 s_o0_6_r6 s_o0_7_r6 s_o0_8_r6 s_o0_9_r6 s_o0_10_r6 s_o0_11_r6 = some o ∧ st.norm ([0, 1, 2, 3, 9], [0, 1]) = mk [(0, .v false [.mp 0 0 0]), (1, .v false [.own 1 0 0]), (2, .v false [.im (tagOf 2 (eO e_S_row before_2)) (eO e_S_row before_2)]), (3, iv sum_3), (9, iv first_9_l5)] [(0, some ⟨0, 0, true, true, false, true, [⟨.imm, 0, 0, .sc (.int .i64 s_o0_0_r6)⟩, ⟨.imm, 0, 0, .sc (.int .i64 s_o0_1_r6)⟩, ⟨.imm, 0, 0, .sc (.int .i64 s_o0_2_r6)⟩, ⟨.imm, 0, 0, .sc (.int .i64 s_o0_3_r6)⟩, ⟨.imm, 0, 0, .sc (.int .i64 s_o0_4_r6)⟩, ⟨.imm, 0, 0, .sc (.int .i64 s_o0_5_r6)⟩, ⟨.imm, 0, 0, .sc (.int .i64 s_o0_6_r6)⟩, ⟨.imm, 0, 0, .sc (.int .i64 s_o0_7_r6)⟩, ⟨.imm, 0, 0, .sc (.int .i64 s_o0_8_r6)⟩, ⟨.imm, 0, 0, .sc (.bool s_o0_9_r6)⟩, ⟨.sh, 0, 0, .row 1 (List.map eI s_o0_10_r6)⟩, ⟨.imm, 0, 0, .sc (.int .i64 s_o0_11_r6)⟩]⟩), (1, some ⟨0, 0, false, false, false, false, [⟨.sh, 0, 0, .row 1 (List.map eI firsts_1)⟩]⟩)]) ?_ ?_
        · rintro st ⟨s_o0_0_r6, s_o0_1_r6, s_o0_2_r6, s_o0_3_r6, s_o0_4_r6, s_o0_5_r6, s_o0_6_r6, s_o0_7_r6, s_o0_8_r6, s_o0_9_r6, s_o0_10_r6, s_o0_11_r6, h, hst⟩
          unfold impl_floorSearch_run_k6 at h
          refine Unw.seq ?_
          refine Go.r1 c38 rfl rfl hst (sq z38 (oMv rfl rfl) <| sq z38 (oMv rfl rfl) <| sq z38 (oNl rfl rfl rfl) <| sq z38 (oFA (r' := .mp 0 0 6) rfl fF72_2 rfl rfl) <| sq z38 (oLd (cs := [.im 0 _]) rfl tF2 rfl rfl) <| sq z38 (oBi rfl rfl rfl rfl) <| sq z38 (oAsI rfl rfl) <| nl) ?_
          refine Unw.nil ?_
          cases h
          exact ⟨rfl, (by first | (cases before_2 <;> kernel_rfl) | kernel_rfl)⟩
        · intro K32
          refine Go.block ?_
          refine Go.seq ?_
          obtain ⟨x60, hx60, h⟩ := bs h
          refine Go.dr c38 rfl rfl rfl rfl (mk [(0, .v false [.mp 0 0 0]), (1, .v false [.own 1 0 0]), (2, .v false [.im (tagOf 2 (eO e_S_row before_2)) (eO e_S_row before_2)]), (3, iv sum_3), (9, iv first_9_l5), (10, .v false [.mp 10 0 0]), (11, bv x60.2)] [(0, some ⟨0, 0, true, true, false, true, [⟨.imm, 0, 0, .sc (.int .i64 s_o0_0_l5)⟩, ⟨.imm, 0, 0, .sc (.int .i64 s_o0_1_l5)⟩, ⟨.imm, 0, 0, .sc (.int .i64 s_o0_2_l5)⟩, ⟨.imm, 0, 0, .sc (.int .i64 s_o0_3_l5)⟩, ⟨.imm, 0, 0, .sc (.int .i64 s_o0_4_l5)⟩, ⟨.imm, 0, 0, .sc (.int .i64 s_o0_5_l5)⟩, ⟨.imm, 0, 0, .sc (.int .i64 s_o0_6_l5)⟩, ⟨.imm, 0, 0, .sc (.int .i64 s_o0_7_l5)⟩, ⟨.imm, 0, 0, .sc (.int .i64 s_o0_8_l5)⟩, ⟨.imm, 0, 0, .sc (.bool s_o0_9_l5)⟩, ⟨.sh, 0, 0, .row 1 (List.map eI s_o0_10_l5)⟩, ⟨.imm, 0, 0, .sc (.int .i64 s_o0_11_l5)⟩]⟩), (1, some ⟨0, 0, false, false, false, false, [⟨.sh, 0, 0, .row 1 (List.map eI firsts_1)⟩]⟩), (10, some ⟨0, 0, false, true, false, true, [⟨.sh, 0, 0, .row 1 (List.map eI x60.1.pieces)⟩, ⟨.sh, 0, 0, .row 1 (List.map eI x60.1.joints)⟩, ⟨.imm, 0, 0, .sc (.int .i64 x60.1.last)⟩]⟩)]) (sT rfl (dN z38 rfl (oMv rfl rfl)) <| sT rfl (dN z38 rfl (oNl rfl rfl rfl)) <| sT rfl (dN z38 rfl (oFA (r' := .mp 0 0 0) rfl fF72_0 rfl rfl)) <| sT rfl (dN z38 rfl (oLd (cs := [.im 0 _, .im 0 _]) rfl tF29 rfl rfl)) <| sT rfl (dN z38 rfl (oMv rfl rfl)) <| sT rfl (dN z38 rfl (oNl rfl rfl rfl)) <| sT rfl (dN z38 rfl (oFA (r' := .mp 0 0 2) rfl fF72_1 rfl rfl)) <| sT rfl (dN z38 rfl (oLd (cs := [.im 0 _, .im 0 _, .im 0 _, .im 0 _]) rfl tF31 rfl rfl)) <| sT rfl (dN z38 rfl (oMv rfl rfl)) <| sT rfl (dN z38 rfl (oMv rfl rfl)) <| sF (dN z38 rfl (oCr (xs := [.v true [.im 0 _, .im 0 _], .v true [.im 0 _, .im 0 _, .im 0 _, .im 0 _], .v false [.im _ _], .v false [.im 0 _]]) (vs := [(true, [.own 60 0 0, .own 60 0 1, .im 0 _]), (false, [.im 0 _])]) (v := .tup [(true, [.own 60 0 0, .own 60 0 1, .im 0 _]), (false, [.im 0 _])]) (c := ⟨.sh, 0, _⟩) (cs := [⟨.sh, 0, _⟩]) (L_impl_possible hx60) rfl rfl kF33_29_31_60_2 rfl (ppC rfl (ppC rfl (ppC rfl (ppC rfl pp0)))) rfl rfl pb0 rfl rfl rfl)) (sT rfl (dN z38 rfl (oMvT rfl rfl)) <| sT rfl (dN z38 rfl (oEx rfl rfl rfl)) <| sF (dN z38 rfl (oEx rfl rfl rfl)) (sS (dN z38 rfl (oAl rfl tF53 (tkN (tkN (tkI tk0))))) (sS (dN z38 rfl (oSt tF53 rfl rfl rfl (tkO rfl rfl (tkO rfl rfl (tkI tk0))) rfl rfl rfl)) (sS (dN z38 rfl (oAsI rfl rfl)) (sD (by first | (cases before_2 <;> kernel_rfl) | kernel_rfl))))) (sS (dN z38 rfl (oAl rfl tF53 (tkN (tkN (tkI tk0))))) (sF (dN z38 rfl (oEx rfl rfl rfl)) (sS (dN z38 rfl (oSt tF53 rfl rfl rfl (tkO rfl rfl (tkO rfl rfl (tkI tk0))) rfl rfl rfl)) (sS (dN z38 rfl (oAsI rfl rfl)) (sD (by first | (cases before_2 <;> kernel_rfl) | kernel_rfl)))) (sS (dN z38 rfl (oSt tF53 rfl rfl rfl (tkO rfl rfl (tkO rfl rfl (tkI tk0))) rfl rfl rfl)) (sT rfl (dN z38 rfl (oEx rfl rfl rfl)) <| sS (dN z38 rfl (oAsI rfl rfl)) (sD (by first | (cases before_2 <;> kernel_rfl) | kernel_rfl))))))) (sS (dN z38 rfl (oAl rfl tF53 (tkN (tkN (tkI tk0))))) (sS (dN z38 rfl (oCr (xs := [.v true [.im 0 _, .im 0 _], .v true [.im 0 _, .im 0 _, .im 0 _, .im 0 _], .v false [.im _ _], .v false [.im 0 _]]) (vs := [(true, [.own 60 0 0, .own 60 0 1, .im 0 _]), (false, [.im 0 _])]) (v := .tup [(true, [.own 60 0 0, .own 60 0 1, .im 0 _]), (false, [.im 0 _])]) (c := ⟨.sh, 0, _⟩) (cs := [⟨.sh, 0, _⟩]) (L_impl_possible hx60) rfl rfl kF33_29_31_60_2 rfl (ppC rfl (ppC rfl (ppC rfl (ppC rfl pp0)))) rfl rfl pb0 rfl rfl rfl)) (sT rfl (dN z38 rfl (oMvT rfl rfl)) <| sT rfl (dN z38 rfl (oEx rfl rfl rfl)) <| sF (dN z38 rfl (oEx rfl rfl rfl)) (sS (dN z38 rfl (oSt tF53 rfl rfl rfl (tkO rfl rfl (tkO rfl rfl (tkI tk0))) rfl rfl rfl)) (sS (dN z38 rfl (oAsI rfl rfl)) (sD (by first | (cases before_2 <;> kernel_rfl) | kernel_rfl)))) (sS (dN z38 rfl (oSt tF53 rfl rfl rfl (tkO rfl rfl (tkO rfl rfl (tkI tk0))) rfl rfl rfl)) (sT rfl (dN z38 rfl (oEx rfl rfl rfl)) <| sS (dN z38 rfl (oAsI rfl rfl)) (sD (by first | (cases before_2 <;> kernel_rfl) | kernel_rfl)))))))) ?_
          refine Unw.seq ?_
          refine Go.seq ?_
          refine Go.seq ?_
          refine Go.r0 c38 rfl rfl (sq z38 (oMv rfl rfl) <| sq z38 (oUn rfl rfl rfl) <| nl) ?_
          refine Unw.seq ?_
          by_cases hc33 : x60.2 = true
          · rw [if_pos hc33] at h
            refine Go.condF rfl (nF (Iff.rfl.2 hc33)) ?_
            refine Go.skip ?_
            refine Unw.seq ?_
            refine Go.seq ?_
            refine Go.r0 c38 rfl rfl (sq z38 (oMv rfl rfl) <| sq z38 (oFA (r' := .mp 10 0 0) rfl fF53_0 rfl rfl) <| sq z38 (oLd (cs := [.own 10 0 0]) rfl tF26 rfl rfl) <| sq z38 (oLnO rfl rfl uF26 rfl rfl rfl (fun e => nomatch e)) <| sq z38 (oBi rfl rfl rfl rfl) <| sq z38 (oAsI rfl rfl) <| nl) ?_
            refine Unw.seq ?_
            refine Go.seq ?_
            refine Go.seq ?_
            obtain ⟨t_71_m10, hm44, h⟩ := bs h
            refine Go.rX c38 rfl rfl rfl (mk [(0, .v false [.mp 0 0 0]), (1, .v false [.own 1 0 0]), (2, .v false [.im (tagOf 2 (eO e_S_row before_2)) (eO e_S_row before_2)]), (3, iv sum_3), (9, iv first_9_l5), (10, .v false [.mp 10 0 0]), (12, iv (w64 (sum_3 + (x60.1.pieces.length : Int)))), (71, bv t_71_m10)] [(0, some ⟨0, 0, true, true, false, true, [⟨.imm, 0, 0, .sc (.int .i64 s_o0_0_l5)⟩, ⟨.imm, 0, 0, .sc (.int .i64 s_o0_1_l5)⟩, ⟨.imm, 0, 0, .sc (.int .i64 s_o0_2_l5)⟩, ⟨.imm, 0, 0, .sc (.int .i64 s_o0_3_l5)⟩, ⟨.imm, 0, 0, .sc (.int .i64 s_o0_4_l5)⟩, ⟨.imm, 0, 0, .sc (.int .i64 s_o0_5_l5)⟩, ⟨.imm, 0, 0, .sc (.int .i64 s_o0_6_l5)⟩, ⟨.imm, 0, 0, .sc (.int .i64 s_o0_7_l5)⟩, ⟨.imm, 0, 0, .sc (.int .i64 s_o0_8_l5)⟩, ⟨.imm, 0, 0, .sc (.bool s_o0_9_l5)⟩, ⟨.sh, 0, 0, .row 1 (List.map eI s_o0_10_l5)⟩, ⟨.imm, 0, 0, .sc (.int .i64 s_o0_11_l5)⟩]⟩), (1, some ⟨0, 0, false, false, false, false, [⟨.sh, 0, 0, .row 1 (List.map eI firsts_1)⟩]⟩), (10, some ⟨0, 0, false, true, false, true, [⟨.sh, 0, 0, .row 1 (List.map eI x60.1.pieces)⟩, ⟨.sh, 0, 0, .row 1 (List.map eI x60.1.joints)⟩, ⟨.imm, 0, 0, .sc (.int .i64 x60.1.last)⟩]⟩)]) ?_ ?_
            · cases before_2 with
              | none =>
                cases hm44
                exact ⟨_, sq z38 (oMv rfl rfl) <| sq z38 (oBiU rfl uF60 rfl rfl rfl) <| nl, (by first | (cases before_2 <;> kernel_rfl) | kernel_rfl)⟩
              | some ohc34 =>
                cases hm44
                exact ⟨_, sq z38 (oMv rfl rfl) <| sq z38 (oBiU rfl uF60 rfl rfl rfl) <| nl, (by first | (cases before_2 <;> kernel_rfl) | kernel_rfl)⟩
            · refine Unw.seq ?_
              refine Go.join (fun st => ∃ own_12_r12, impl_floorSearch_run_k12 self first_9_l5 firsts_1 s_o0_0_l5 s_o0_10_l5 s_o0_11_l5 s_o0_1_l5 s_o0_2_l5 s_o0_3_l5 s_o0_4_l5 s_o0_5_l5 s_o0_6_l5 s_o0_7_l5 s_o0_8_l5 s_o0_9_l5 x60 own_12_r12 = some o ∧ st.norm ([0, 1, 2, 3, 9, 10, 12], [0, 1, 10]) = mk [(0, .v false [.mp 0 0 0]), (1, .v false [.own 1 0 0]), (2, .v false [.im (tagOf 2 (eO e_S_row before_2)) (eO e_S_row before_2)]), (3, iv sum_3), (9, iv first_9_l5), (10, .v false [.mp 10 0 0]), (12, iv own_12_r12)] [(0, some ⟨0, 0, true, true, false, true, [⟨.imm, 0, 0, .sc (.int .i64 s_o0_0_l5)⟩, ⟨.imm, 0, 0, .sc (.int .i64 s_o0_1_l5)⟩, ⟨.imm, 0, 0, .sc (.int .i64 s_o0_2_l5)⟩, ⟨.imm, 0, 0, .sc (.int .i64 s_o0_3_l5)⟩, ⟨.imm, 0, 0, .sc (.int .i64 s_o0_4_l5)⟩, ⟨.imm, 0, 0, .sc (.int .i64 s_o0_5_l5)⟩, ⟨.imm, 0, 0, .sc (.int .i64 s_o0_6_l5)⟩, ⟨.imm, 0, 0, .sc (.int .i64 s_o0_7_l5)⟩, ⟨.imm, 0, 0, .sc (.int .i64 s_o0_8_l5)⟩, ⟨.imm, 0, 0, .sc (.bool s_o0_9_l5)⟩, ⟨.sh, 0, 0, .row 1 (List.map eI s_o0_10_l5)⟩, ⟨.imm, 0, 0, .sc (.int .i64 s_o0_11_l5)⟩]⟩), (1, some ⟨0, 0, false, false, false, false, [⟨.sh, 0, 0, .row 1 (List.map eI firsts_1)⟩]⟩), (10, some ⟨0, 0, false, true, false, true, [⟨.sh, 0, 0, .row 1 (List.map eI x60.1.pieces)⟩, ⟨.sh, 0, 0, .row 1 (List.map eI x60.1.joints)⟩, ⟨.imm, 0, 0, .sc (.int .i64 x60.1.last)⟩]⟩)]) ?_ ?_
              · rintro st ⟨own_12_r12, h, hst⟩
                unfold impl_floorSearch_run_k12 at h
                refine Unw.seq ?_
                refine Go.seq ?_
                refine Go.seq ?_
                refine Go.rX c38 rfl rfl hst (mk [(0, .v false [.mp 0 0 0]), (1, .v false [.own 1 0 0]), (2, .v false [.im (tagOf 2 (eO e_S_row before_2)) (eO e_S_row before_2)]), (3, iv sum_3), (9, iv first_9_l5), (10, .v false [.mp 10 0 0]), (12, iv own_12_r12), (94, bv (s_o0_9_l5 && (decide (own_12_r12 ≥ s_o0_11_l5))))] [(0, some ⟨0, 0, true, true, false, true, [⟨.imm, 0, 0, .sc (.int .i64 s_o0_0_l5)⟩, ⟨.imm, 0, 0, .sc (.int .i64 s_o0_1_l5)⟩, ⟨.imm, 0, 0, .sc (.int .i64 s_o0_2_l5)⟩, ⟨.imm, 0, 0, .sc (.int .i64 s_o0_3_l5)⟩, ⟨.imm, 0, 0, .sc (.int .i64 s_o0_4_l5)⟩, ⟨.imm, 0, 0, .sc (.int .i64 s_o0_5_l5)⟩, ⟨.imm, 0, 0, .sc (.int .i64 s_o0_6_l5)⟩, ⟨.imm, 0, 0, .sc (.int .i64 s_o0_7_l5)⟩, ⟨.imm, 0, 0, .sc (.int .i64 s_o0_8_l5)⟩, ⟨.imm, 0, 0, .sc (.bool s_o0_9_l5)⟩, ⟨.sh, 0, 0, .row 1 (List.map eI s_o0_10_l5)⟩, ⟨.imm, 0, 0, .sc (.int .i64 s_o0_11_l5)⟩]⟩), (1, some ⟨0, 0, false, false, false, false, [⟨.sh, 0, 0, .row 1 (List.map eI firsts_1)⟩]⟩), (10, some ⟨0, 0, false, true, false, true, [⟨.sh, 0, 0, .row 1 (List.map eI x60.1.pieces)⟩, ⟨.sh, 0, 0, .row 1 (List.map eI x60.1.joints)⟩, ⟨.imm, 0, 0, .sc (.int .i64 x60.1.last)⟩]⟩)]) ?_ ?_
                · by_cases hc37 : s_o0_9_l5 = true
                  · exact ⟨_, sq z38 (oMv rfl rfl) <| sq z38 (oNl rfl rfl rfl) <| sq z38 (oFA (r' := .mp 0 0 9) rfl fF72_5 rfl rfl) <| sq z38 (oLd (cs := [.im 0 _]) rfl tF4 rfl rfl) <| sq z38 (oMv rfl rfl) <| sgT z38 rfl rfl (Iff.rfl.2 hc37) (oMv rfl rfl) <| sgT z38 rfl rfl (Iff.rfl.2 hc37) (oMv rfl rfl) <| sgT z38 rfl rfl (Iff.rfl.2 hc37) (oNl rfl rfl rfl) <| sgT z38 rfl rfl (Iff.rfl.2 hc37) (oFA (r' := .mp 0 0 11) rfl fF72_7 rfl rfl) <| sgT z38 rfl rfl (Iff.rfl.2 hc37) (oLd (cs := [.im 0 _]) rfl tF2 rfl rfl) <| sgT z38 rfl rfl (Iff.rfl.2 hc37) (oBi rfl rfl rfl rfl) <| sq z38 (oPkT rfl rfl (Iff.rfl.2 hc37) rfl) <| nl, (Eq.trans (b := (fun t_94_m12 : Bool => mk [(0, .v false [.mp 0 0 0]), (1, .v false [.own 1 0 0]), (2, .v false [.im (tagOf 2 (eO e_S_row before_2)) (eO e_S_row before_2)]), (3, iv sum_3), (9, iv first_9_l5), (10, .v false [.mp 10 0 0]), (12, iv own_12_r12), (94, bv t_94_m12)] [(0, some ⟨0, 0, true, true, false, true, [⟨.imm, 0, 0, .sc (.int .i64 s_o0_0_l5)⟩, ⟨.imm, 0, 0, .sc (.int .i64 s_o0_1_l5)⟩, ⟨.imm, 0, 0, .sc (.int .i64 s_o0_2_l5)⟩, ⟨.imm, 0, 0, .sc (.int .i64 s_o0_3_l5)⟩, ⟨.imm, 0, 0, .sc (.int .i64 s_o0_4_l5)⟩, ⟨.imm, 0, 0, .sc (.int .i64 s_o0_5_l5)⟩, ⟨.imm, 0, 0, .sc (.int .i64 s_o0_6_l5)⟩, ⟨.imm, 0, 0, .sc (.int .i64 s_o0_7_l5)⟩, ⟨.imm, 0, 0, .sc (.int .i64 s_o0_8_l5)⟩, ⟨.imm, 0, 0, .sc (.bool s_o0_9_l5)⟩, ⟨.sh, 0, 0, .row 1 (List.map eI s_o0_10_l5)⟩, ⟨.imm, 0, 0, .sc (.int .i64 s_o0_11_l5)⟩]⟩), (1, some ⟨0, 0, false, false, false, false, [⟨.sh, 0, 0, .row 1 (List.map eI firsts_1)⟩]⟩), (10, some ⟨0, 0, false, true, false, true, [⟨.sh, 0, 0, .row 1 (List.map eI x60.1.pieces)⟩, ⟨.sh, 0, 0, .row 1 (List.map eI x60.1.joints)⟩, ⟨.imm, 0, 0, .sc (.int .i64 x60.1.last)⟩]⟩)]) (decide (own_12_r12 ≥ s_o0_11_l5))) (by first | (cases before_2 <;> kernel_rfl) | kernel_rfl) (congrArg (fun t_94_m12 : Bool => mk [(0, .v false [.mp 0 0 0]), (1, .v false [.own 1 0 0]), (2, .v false [.im (tagOf 2 (eO e_S_row before_2)) (eO e_S_row before_2)]), (3, iv sum_3), (9, iv first_9_l5), (10, .v false [.mp 10 0 0]), (12, iv own_12_r12), (94, bv t_94_m12)] [(0, some ⟨0, 0, true, true, false, true, [⟨.imm, 0, 0, .sc (.int .i64 s_o0_0_l5)⟩, ⟨.imm, 0, 0, .sc (.int .i64 s_o0_1_l5)⟩, ⟨.imm, 0, 0, .sc (.int .i64 s_o0_2_l5)⟩, ⟨.imm, 0, 0, .sc (.int .i64 s_o0_3_l5)⟩, ⟨.imm, 0, 0, .sc (.int .i64 s_o0_4_l5)⟩, ⟨.imm, 0, 0, .sc (.int .i64 s_o0_5_l5)⟩, ⟨.imm, 0, 0, .sc (.int .i64 s_o0_6_l5)⟩, ⟨.imm, 0, 0, .sc (.int .i64 s_o0_7_l5)⟩, ⟨.imm, 0, 0, .sc (.int .i64 s_o0_8_l5)⟩, ⟨.imm, 0, 0, .sc (.bool s_o0_9_l5)⟩, ⟨.sh, 0, 0, .row 1 (List.map eI s_o0_10_l5)⟩, ⟨.imm, 0, 0, .sc (.int .i64 s_o0_11_l5)⟩]⟩), (1, some ⟨0, 0, false, false, false, false, [⟨.sh, 0, 0, .row 1 (List.map eI firsts_1)⟩]⟩), (10, some ⟨0, 0, false, true, false, true, [⟨.sh, 0, 0, .row 1 (List.map eI x60.1.pieces)⟩, ⟨.sh, 0, 0, .row 1 (List.map eI x60.1.joints)⟩, ⟨.imm, 0, 0, .sc (.int .i64 x60.1.last)⟩]⟩)]) (by first | rfl | simp [(Iff.rfl.2 hc37)])))⟩
                  · exact ⟨_, sq z38 (oMv rfl rfl) <| sq z38 (oNl rfl rfl rfl) <| sq z38 (oFA (r' := .mp 0 0 9) rfl fF72_5 rfl rfl) <| sq z38 (oLd (cs := [.im 0 _]) rfl tF4 rfl rfl) <| sq z38 (oMv rfl rfl) <| sgF rfl rfl (byF Iff.rfl hc37) rfl <| sgF rfl rfl (byF Iff.rfl hc37) rfl <| sgF rfl rfl (byF Iff.rfl hc37) rfl <| sgF rfl rfl (byF Iff.rfl hc37) rfl <| sgF rfl rfl (byF Iff.rfl hc37) rfl <| sgF rfl rfl (byF Iff.rfl hc37) rfl <| sq z38 (oPkF rfl rfl (byF Iff.rfl hc37) rfl) <| nl, (Eq.trans (b := (fun t_94_m12 : Bool => mk [(0, .v false [.mp 0 0 0]), (1, .v false [.own 1 0 0]), (2, .v false [.im (tagOf 2 (eO e_S_row before_2)) (eO e_S_row before_2)]), (3, iv sum_3), (9, iv first_9_l5), (10, .v false [.mp 10 0 0]), (12, iv own_12_r12), (94, bv t_94_m12)] [(0, some ⟨0, 0, true, true, false, true, [⟨.imm, 0, 0, .sc (.int .i64 s_o0_0_l5)⟩, ⟨.imm, 0, 0, .sc (.int .i64 s_o0_1_l5)⟩, ⟨.imm, 0, 0, .sc (.int .i64 s_o0_2_l5)⟩, ⟨.imm, 0, 0, .sc (.int .i64 s_o0_3_l5)⟩, ⟨.imm, 0, 0, .sc (.int .i64 s_o0_4_l5)⟩, ⟨.imm, 0, 0, .sc (.int .i64 s_o0_5_l5)⟩, ⟨.imm, 0, 0, .sc (.int .i64 s_o0_6_l5)⟩, ⟨.imm, 0, 0, .sc (.int .i64 s_o0_7_l5)⟩, ⟨.imm, 0, 0, .sc (.int .i64 s_o0_8_l5)⟩, ⟨.imm, 0, 0, .sc (.bool s_o0_9_l5)⟩, ⟨.sh, 0, 0, .row 1 (List.map eI s_o0_10_l5)⟩, ⟨.imm, 0, 0, .sc (.int .i64 s_o0_11_l5)⟩]⟩), (1, some ⟨0, 0, false, false, false, false, [⟨.sh, 0, 0, .row 1 (List.map eI firsts_1)⟩]⟩), (10, some ⟨0, 0, false, true, false, true, [⟨.sh, 0, 0, .row 1 (List.map eI x60.1.pieces)⟩, ⟨.sh, 0, 0, .row 1 (List.map eI x60.1.joints)⟩, ⟨.imm, 0, 0, .sc (.int .i64 x60.1.last)⟩]⟩)]) false) (by first | (cases before_2 <;> kernel_rfl) | kernel_rfl) (congrArg (fun t_94_m12 : Bool => mk [(0, .v false [.mp 0 0 0]), (1, .v false [.own 1 0 0]), (2, .v false [.im (tagOf 2 (eO e_S_row before_2)) (eO e_S_row before_2)]), (3, iv sum_3), (9, iv first_9_l5), (10, .v false [.mp 10 0 0]), (12, iv own_12_r12), (94, bv t_94_m12)] [(0, some ⟨0, 0, true, true, false, true, [⟨.imm, 0, 0, .sc (.int .i64 s_o0_0_l5)⟩, ⟨.imm, 0, 0, .sc (.int .i64 s_o0_1_l5)⟩, ⟨.imm, 0, 0, .sc (.int .i64 s_o0_2_l5)⟩, ⟨.imm, 0, 0, .sc (.int .i64 s_o0_3_l5)⟩, ⟨.imm, 0, 0, .sc (.int .i64 s_o0_4_l5)⟩, ⟨.imm, 0, 0, .sc (.int .i64 s_o0_5_l5)⟩, ⟨.imm, 0, 0, .sc (.int .i64 s_o0_6_l5)⟩, ⟨.imm, 0, 0, .sc (.int .i64 s_o0_7_l5)⟩, ⟨.imm, 0, 0, .sc (.int .i64 s_o0_8_l5)⟩, ⟨.imm, 0, 0, .sc (.bool s_o0_9_l5)⟩, ⟨.sh, 0, 0, .row 1 (List.map eI s_o0_10_l5)⟩, ⟨.imm, 0, 0, .sc (.int .i64 s_o0_11_l5)⟩]⟩), (1, some ⟨0, 0, false, false, false, false, [⟨.sh, 0, 0, .row 1 (List.map eI firsts_1)⟩]⟩), (10, some ⟨0, 0, false, true, false, true, [⟨.sh, 0, 0, .row 1 (List.map eI x60.1.pieces)⟩, ⟨.sh, 0, 0, .row 1 (List.map eI x60.1.joints)⟩, ⟨.imm, 0, 0, .sc (.int .i64 x60.1.last)⟩]⟩)]) (by first | rfl | simp [(byF Iff.rfl hc37)])))⟩
                · refine Unw.seq ?_
                  by_cases hc38 : (s_o0_9_l5 = true ∧ own_12_r12 ≥ s_o0_11_l5)
                  · rw [if_pos hc38] at h
                    refine Go.condT rfl ((iAnd Iff.rfl iDec).2 hc38) ?_
                    refine Go.exit ?_
                    refine Unw.seqx ?_
                    refine Unw.blkx ?_
                    exact K32 _ ⟨s_o0_0_l5, s_o0_1_l5, s_o0_2_l5, s_o0_3_l5, s_o0_4_l5, s_o0_5_l5, s_o0_6_l5, s_o0_7_l5, s_o0_8_l5, s_o0_9_l5, s_o0_10_l5, s_o0_11_l5, h, (by first | (cases before_2 <;> kernel_rfl) | kernel_rfl)⟩
                  · rw [if_neg hc38] at h
                    refine Go.condF rfl (byF (iAnd Iff.rfl iDec) hc38) ?_
                    refine Go.skip ?_
                    refine Unw.seq ?_
                    refine Go.seq ?_
                    refine Go.seq ?_
                    refine Go.r0 c38 rfl rfl (sq z38 (oMv rfl rfl) <| sq z38 (oNl rfl rfl rfl) <| sq z38 (oFA (r' := .mp 0 0 8) rfl fF72_4 rfl rfl) <| sq z38 (oLd (cs := [.im 0 _]) rfl tF2 rfl rfl) <| sq z38 (oBi rfl rfl rfl rfl) <| nl) ?_
                    refine Unw.seq ?_
                    by_cases hc39 : s_o0_8_l5 = 0
                    · rw [if_pos hc39] at h
                      refine Go.condT rfl (iEq.2 hc39) ?_
                      refine Go.seq ?_
                      refine Go.r0 c38 rfl rfl (sq z38 (oAsI rfl rfl) <| nl) ?_
                      refine Unw.seq ?_
                      refine Go.ret (Unw.ret ?_)
                      cases h
                      exact ⟨rfl, (fin_of rfl rF38 rfl (by kernel_rfl))⟩
                    · rw [if_neg hc39] at h
                      refine Go.condF rfl (byF iEq hc39) ?_
                      refine Go.skip ?_
                      refine Unw.seq ?_
                      refine Go.seq ?_
                      refine Go.r0 c38 rfl rfl (sq z38 (oMv rfl rfl) <| sq z38 (oNl rfl rfl rfl) <| sq z38 (oFA (r' := .mp 0 0 8) rfl fF72_4 rfl rfl) <| sq z38 (oLd (cs := [.im 0 _]) rfl tF2 rfl rfl) <| sq z38 (oBi rfl rfl rfl rfl) <| sq z38 (oNl rfl rfl rfl) <| sq z38 (oFA (r' := .mp 0 0 8) rfl fF72_4 rfl rfl) <| sq z38 (oSt tF2 rfl rfl rfl (tkI tk0) rfl rfl rfl) <| nl) ?_
                      refine Unw.seq ?_
                      refine Go.seq ?_
                      obtain ⟨x109, hx109, h⟩ := bs h
                      obtain ⟨x112, hx112, h⟩ := bs h
                      obtain ⟨x114, hx114, h⟩ := bs h
                      refine Go.r1 c38 rfl rfl (st1 := mk [(0, .v false [.mp 0 0 0]), (1, .v false [.own 1 0 0]), (2, .v false [.im (tagOf 2 (eO e_S_row before_2)) (eO e_S_row before_2)]), (3, iv sum_3), (9, iv first_9_l5), (10, .v false [.mp 10 0 0]), (12, iv own_12_r12)] [(0, some ⟨0, 0, true, true, false, true, [⟨.imm, 0, 0, .sc (.int .i64 s_o0_0_l5)⟩, ⟨.imm, 0, 0, .sc (.int .i64 s_o0_1_l5)⟩, ⟨.imm, 0, 0, .sc (.int .i64 s_o0_2_l5)⟩, ⟨.imm, 0, 0, .sc (.int .i64 s_o0_3_l5)⟩, ⟨.imm, 0, 0, .sc (.int .i64 s_o0_4_l5)⟩, ⟨.imm, 0, 0, .sc (.int .i64 s_o0_5_l5)⟩, ⟨.imm, 0, 0, .sc (.int .i64 s_o0_6_l5)⟩, ⟨.imm, 0, 0, .sc (.int .i64 s_o0_7_l5)⟩, ⟨.imm, 0, 0, .sc (.int .i64 (w64 (s_o0_8_l5 - 1)))⟩, ⟨.imm, 0, 0, .sc (.bool s_o0_9_l5)⟩, ⟨.sh, 0, 0, .row 1 (List.map eI s_o0_10_l5)⟩, ⟨.imm, 0, 0, .sc (.int .i64 s_o0_11_l5)⟩]⟩), (1, some ⟨0, 0, false, false, false, false, [⟨.sh, 0, 0, .row 1 (List.map eI firsts_1)⟩]⟩), (10, some ⟨0, 0, false, true, false, true, [⟨.sh, 0, 0, .row 1 (List.map eI x60.1.pieces)⟩, ⟨.sh, 0, 0, .row 1 (List.map eI x60.1.joints)⟩, ⟨.imm, 0, 0, .sc (.int .i64 x60.1.last)⟩]⟩)]) (by first | (cases before_2 <;> kernel_rfl) | kernel_rfl) (sq z38 (oMv rfl rfl) <| sq z38 (oMv rfl rfl) <| sq z38 (oCr (xs := [.v false [.own 1 0 0]]) (vs := [(false, [.own 109 0 0])]) (v := .v false [.own 109 0 0]) (c := ⟨.sh, 0, _⟩) (cs := []) (FL_cloneN (en := eI) (L := firsts_1) rfl hx109 (fun _ => rfl)) rfl rfl kF51_26 rfl (ppC rfl pp0) rfl rfl pb0 rfl rfl rfl) <| sq z38 (oMv rfl rfl) <| sq z38 (oBS (es := List.map eI ([first_9_l5] : List Int)) rfl sF26 rfl (ptC rfl (fxI fx0) rfl pt0) (flat0 rfl fun _ => rfl)) <| sq z38 (oApO (en := eI) (M := ([first_9_l5] : List Int)) rfl hx112 rfl sF26 rfl rfl uF26 (.inl ⟨_, rfl⟩) rfl rfl rfl rfl (el_own rfl rfl) (flat0 rfl fun _ => rfl)) <| sq z38 (oMv rfl rfl) <| sq z38 (oCa (xs := [.v false [.mp 0 0 0], .v false [.own 112 0 0], .v false [.mp 10 0 0], .v false [.im 0 _]]) (vs := [(false, [.im 0 _])]) (v := .v false [.im 0 _]) (ih hx114) rfl rfl kF38_70_26_60_2 rfl (ppPx (ob' := ⟨0, 0, true, true, false, true, [⟨.imm, 0, 0, .sc (.int .i64 s_o0_0_l5)⟩, ⟨.imm, 0, 0, .sc (.int .i64 s_o0_1_l5)⟩, ⟨.imm, 0, 0, .sc (.int .i64 s_o0_2_l5)⟩, ⟨.imm, 0, 0, .sc (.int .i64 s_o0_3_l5)⟩, ⟨.imm, 0, 0, .sc (.int .i64 s_o0_4_l5)⟩, ⟨.imm, 0, 0, .sc (.int .i64 s_o0_5_l5)⟩, ⟨.imm, 0, 0, .sc (.int .i64 s_o0_6_l5)⟩, ⟨.imm, 0, 0, .sc (.int .i64 s_o0_7_l5)⟩, ⟨.imm, 0, 0, .sc (.int .i64 (w64 (s_o0_8_l5 - 1)))⟩, ⟨.imm, 0, 0, .sc (.bool s_o0_9_l5)⟩, ⟨.sh, 0, 0, .row 1 (List.map eI s_o0_10_l5)⟩, ⟨.imm, 0, 0, .sc (.int .i64 s_o0_11_l5)⟩]⟩) rfl rfl rfl (by kernel_rfl) (ppM (take_own rfl rfl) (ppC rfl (ppC rfl pp0)))) rfl rfl (pbPx (ob' := ⟨0, 1, true, true, false, true, [⟨.imm, 1, 0, .sc (.int .i64 x114.2.room.Width)⟩, ⟨.imm, 1, 0, .sc (.int .i64 x114.2.room.Length)⟩, ⟨.imm, 1, 0, .sc (.int .i64 x114.2.stock.Board)⟩, ⟨.imm, 1, 0, .sc (.int .i64 x114.2.stock.Wide)⟩, ⟨.imm, 1, 0, .sc (.int .i64 x114.2.stock.Least)⟩, ⟨.imm, 1, 0, .sc (.int .i64 x114.2.stock.Stagger)⟩, ⟨.imm, 1, 0, .sc (.int .i64 x114.2.step)⟩, ⟨.imm, 1, 0, .sc (.int .i64 x114.2.rows)⟩, ⟨.imm, 1, 0, .sc (.int .i64 x114.2.left)⟩, ⟨.imm, 1, 0, .sc (.bool x114.2.found)⟩, ⟨.sh, 1, 0, .row 1 (List.map eI x114.2.best)⟩, ⟨.imm, 1, 0, .sc (.int .i64 x114.2.least)⟩]⟩) rfl rfl (by kernel_rfl) pb0) rfl rfl rfl) <| nl) ?_
                      refine Unw.seq ?_
                      by_cases hc40 : x114.1 = true
                      · rw [if_pos hc40] at h
                        refine Go.condT rfl (Iff.rfl.2 hc40) ?_
                        refine Go.seq ?_
                        refine Go.r1 c38 rfl rfl (st1 := mk [] [(0, some ⟨0, 0, true, true, false, true, [⟨.imm, 0, 0, .sc (.int .i64 x114.2.room.Width)⟩, ⟨.imm, 0, 0, .sc (.int .i64 x114.2.room.Length)⟩, ⟨.imm, 0, 0, .sc (.int .i64 x114.2.stock.Board)⟩, ⟨.imm, 0, 0, .sc (.int .i64 x114.2.stock.Wide)⟩, ⟨.imm, 0, 0, .sc (.int .i64 x114.2.stock.Least)⟩, ⟨.imm, 0, 0, .sc (.int .i64 x114.2.stock.Stagger)⟩, ⟨.imm, 0, 0, .sc (.int .i64 x114.2.step)⟩, ⟨.imm, 0, 0, .sc (.int .i64 x114.2.rows)⟩, ⟨.imm, 0, 0, .sc (.int .i64 x114.2.left)⟩, ⟨.imm, 0, 0, .sc (.bool x114.2.found)⟩, ⟨.sh, 0, 0, .row 1 (List.map eI x114.2.best)⟩, ⟨.imm, 0, 0, .sc (.int .i64 x114.2.least)⟩]⟩)]) (by first | (cases before_2 <;> kernel_rfl) | kernel_rfl) (sq z38 (oAsI rfl rfl) <| nl) ?_
                        refine Unw.seq ?_
                        refine Go.ret (Unw.ret ?_)
                        cases h
                        exact ⟨rfl, (fin_of rfl rF38 rfl (by kernel_rfl))⟩
                      · rw [if_neg hc40] at h
                        refine Go.condF rfl (byF Iff.rfl hc40) ?_
                        refine Go.skip ?_
                        refine Unw.blk ?_
                        exact K32 _ ⟨x114.2.room.Width, x114.2.room.Length, x114.2.stock.Board, x114.2.stock.Wide, x114.2.stock.Least, x114.2.stock.Stagger, x114.2.step, x114.2.rows, x114.2.left, x114.2.found, x114.2.best, x114.2.least, h, (by first | (cases before_2 <;> kernel_rfl) | kernel_rfl)⟩
              · intro K41
                by_cases hc42 : t_71_m10 = true
                · rw [if_pos hc42] at h
                  refine Go.condT rfl (Iff.rfl.2 hc42) ?_
                  cases before_2 with
                  | none =>
                    cases h
                  | some ohc43 =>
                    obtain ⟨x81, hx81, h⟩ := bs h
                    refine Go.dr c38 rfl rfl rfl rfl (mk [(0, .v false [.mp 0 0 0]), (1, .v false [.own 1 0 0]), (2, .v false [.im (tagOf 2 (eO e_S_row (some ohc43))) (eO e_S_row (some ohc43))]), (3, iv sum_3), (9, iv first_9_l5), (10, .v false [.mp 10 0 0]), (12, iv (w64 (sum_3 + x81)))] [(0, some ⟨0, 0, true, true, false, true, [⟨.imm, 0, 0, .sc (.int .i64 s_o0_0_l5)⟩, ⟨.imm, 0, 0, .sc (.int .i64 s_o0_1_l5)⟩, ⟨.imm, 0, 0, .sc (.int .i64 s_o0_2_l5)⟩, ⟨.imm, 0, 0, .sc (.int .i64 s_o0_3_l5)⟩, ⟨.imm, 0, 0, .sc (.int .i64 s_o0_4_l5)⟩, ⟨.imm, 0, 0, .sc (.int .i64 s_o0_5_l5)⟩, ⟨.imm, 0, 0, .sc (.int .i64 s_o0_6_l5)⟩, ⟨.imm, 0, 0, .sc (.int .i64 s_o0_7_l5)⟩, ⟨.imm, 0, 0, .sc (.int .i64 s_o0_8_l5)⟩, ⟨.imm, 0, 0, .sc (.bool s_o0_9_l5)⟩, ⟨.sh, 0, 0, .row 1 (List.map eI s_o0_10_l5)⟩, ⟨.imm, 0, 0, .sc (.int .i64 s_o0_11_l5)⟩]⟩), (1, some ⟨0, 0, false, false, false, false, [⟨.sh, 0, 0, .row 1 (List.map eI firsts_1)⟩]⟩), (10, some ⟨0, 0, false, true, false, true, [⟨.sh, 0, 0, .row 1 (List.map eI x60.1.pieces)⟩, ⟨.sh, 0, 0, .row 1 (List.map eI x60.1.joints)⟩, ⟨.imm, 0, 0, .sc (.int .i64 x60.1.last)⟩]⟩)]) ?_ ?_
                    · exact sT rfl (dN z38 rfl (oMv rfl rfl)) <| sT rfl (dN z38 rfl (oMv rfl rfl)) <| sT rfl (dN z38 rfl (oNl rfl rfl rfl)) <| sT rfl (dN z38 rfl (oLd (cs := [.im _ _, .im _ _, .im _ _]) rfl tF53 rfl rfl)) <| sT rfl (dN z38 rfl (oLd (cs := [.own 10 0 0, .own 10 0 1, .im 0 _]) rfl tF53 rfl rfl)) <| sT rfl (dN z38 rfl (oMv rfl rfl)) <| sT rfl (dN z38 rfl (oNl rfl rfl rfl)) <| sT rfl (dN z38 rfl (oFA (r' := .mp 0 0 2) rfl fF72_1 rfl rfl)) <| sT rfl (dN z38 rfl (oLd (cs := [.im 0 _, .im 0 _, .im 0 _, .im 0 _]) rfl tF31 rfl rfl)) <| sS (dN z38 rfl (oCa (xs := [.v true [.im _ _, .im _ _, .im _ _], .v true [.own 10 0 0, .own 10 0 1, .im 0 _], .v true [.im 0 _, .im 0 _, .im 0 _, .im 0 _]]) (vs := [(false, [.im 0 _])]) (v := .v false [.im 0 _]) (L_impl_boards hx81) rfl rfl kF26_53_53_31 rfl (ppC rfl (ppC rfl (ppC rfl pp0))) rfl rfl pb0 rfl rfl rfl)) (sT rfl (dN z38 rfl (oBi rfl rfl rfl rfl)) <| sS (dN z38 rfl (oAsI rfl rfl)) (sD (by first | (cases (some ohc43) <;> kernel_rfl) | kernel_rfl)))
                    · exact K41 _ ⟨(w64 (sum_3 + x81)), h, (by first | (cases (some ohc43) <;> kernel_rfl) | kernel_rfl)⟩
                · rw [if_neg hc42] at h
                  refine Go.condF rfl (byF Iff.rfl hc42) ?_
                  refine Go.skip ?_
                  exact K41 _ ⟨(w64 (sum_3 + (x60.1.pieces.length : Int))), h, (by first | (cases before_2 <;> kernel_rfl) | kernel_rfl)⟩
          · rw [if_neg hc33] at h
            refine Go.condT rfl (nT (byF Iff.rfl hc33)) ?_
            refine Go.exit ?_
            refine Unw.seqx ?_
            refine Unw.blkx ?_
            exact K32 _ ⟨s_o0_0_l5, s_o0_1_l5, s_o0_2_l5, s_o0_3_l5, s_o0_4_l5, s_o0_5_l5, s_o0_6_l5, s_o0_7_l5, s_o0_8_l5, s_o0_9_l5, s_o0_10_l5, s_o0_11_l5, h, (by first | (cases before_2 <;> kernel_rfl) | kernel_rfl)⟩
      · rw [if_neg hc22] at h
        refine Go.condF rfl (byF iDec hc22) ?_
        refine Go.exit ?_
        refine Unw.seqx ?_
        refine Unw.nil ?_
        cases h
        exact ⟨rfl, (by first | (cases before_2 <;> kernel_rfl) | kernel_rfl)⟩
    · rintro ⟨e, st⟩ hp
      rcases o with ⟨s_o0_0_e0_5, s_o0_1_e0_5, s_o0_2_e0_5, s_o0_3_e0_5, s_o0_4_e0_5, s_o0_5_e0_5, s_o0_6_e0_5, s_o0_7_e0_5, s_o0_8_e0_5, s_o0_9_e0_5, s_o0_10_e0_5, s_o0_11_e0_5⟩ | r2
      · dsimp only at h
        obtain ⟨he, hst⟩ := hp
        obtain rfl : e = .exit 0 := he
        refine Unw.blkx ?_
        refine Unw.seq ?_
        refine Go.seq ?_
        refine Go.r1 c38 rfl rfl hst (sq z38 (oAsI rfl rfl) <| nl) ?_
        refine Unw.seq ?_
        refine Go.ret (Unw.ret ?_)
        cases h
        exact Fin_ret (fin_of rfl rF38 rfl (by kernel_rfl))
      · dsimp only at h
        obtain ⟨he, hfin⟩ := hp
        obtain rfl : e = .ret := he
        cases h
        exact Unw.ret (Fin_ret hfin)
theorem L_impl_floorSearch_run {s_0 : S_floorSearch} {firsts_1 : (List Int)} {before_2 : (Option S_row)} {sum_3 : Int} {r : (Bool × S_floorSearch)} (h : impl_floorSearch_run s_0 firsts_1 before_2 sum_3 = some r) : FL Try.prog cfg 38 [.ptr true [(.imm, .sc (.int .i64 s_0.room.Width)), (.imm, .sc (.int .i64 s_0.room.Length)), (.imm, .sc (.int .i64 s_0.stock.Board)), (.imm, .sc (.int .i64 s_0.stock.Wide)), (.imm, .sc (.int .i64 s_0.stock.Least)), (.imm, .sc (.int .i64 s_0.stock.Stagger)), (.imm, .sc (.int .i64 s_0.step)), (.imm, .sc (.int .i64 s_0.rows)), (.imm, .sc (.int .i64 s_0.left)), (.imm, .sc (.bool s_0.found)), (.sh, .row 1 (List.map eI s_0.best)), (.imm, .sc (.int .i64 s_0.least))], .mv 1 (List.map eI firsts_1), .im 2 false [eO e_S_row before_2], .im 2 false [.sc (.int .i64 sum_3)]] = some ([(false, [.im 0 (.sc (.bool r.1))])], [.ptr true [(.imm, .sc (.int .i64 r.2.room.Width)), (.imm, .sc (.int .i64 r.2.room.Length)), (.imm, .sc (.int .i64 r.2.stock.Board)), (.imm, .sc (.int .i64 r.2.stock.Wide)), (.imm, .sc (.int .i64 r.2.stock.Least)), (.imm, .sc (.int .i64 r.2.stock.Stagger)), (.imm, .sc (.int .i64 r.2.step)), (.imm, .sc (.int .i64 r.2.rows)), (.imm, .sc (.int .i64 r.2.left)), (.imm, .sc (.bool r.2.found)), (.sh, .row 1 (List.map eI r.2.best)), (.imm, .sc (.int .i64 r.2.least))]]) := by
  unfold impl_floorSearch_run at h
  obtain ⟨n, hn⟩ := fixO_iter h
  clear h
  induction n generalizing s_0 firsts_1 before_2 sum_3 r with
  | zero => cases hn
  | succ n ihn => exact L_impl_floorSearch_run_F (self := iterO _ n) (fun h => ihn h) hn
theorem L_impl_BestFloor {r_0 : S_Room} {k_1 : S_Stock} {step_2 : Int} {budget_3 : Int} {r : ((List Int) × Int × Int)} (h : impl_BestFloor r_0 k_1 step_2 budget_3 = some r) : FL Try.prog cfg 20 [.im 2 true [.sc (.int .i64 r_0.Width), .sc (.int .i64 r_0.Length)], .im 2 true [.sc (.int .i64 k_1.Board), .sc (.int .i64 k_1.Wide), .sc (.int .i64 k_1.Least), .sc (.int .i64 k_1.Stagger)], .im 2 false [.sc (.int .i64 step_2)], .im 2 false [.sc (.int .i64 budget_3)]] = some ([(false, [.ow 0 1 (List.map eI r.1)]), (false, [.im 0 (.sc (.int .i64 r.2.1))]), (false, [.im 0 (.sc (.int .i64 r.2.2))])], []) := by
  unfold impl_BestFloor at h
  refine FL_goS (A := [(0, .v true [.im 2 (.sc (.int .i64 r_0.Width)), .im 2 (.sc (.int .i64 r_0.Length))]), (1, .v true [.im 2 (.sc (.int .i64 k_1.Board)), .im 2 (.sc (.int .i64 k_1.Wide)), .im 2 (.sc (.int .i64 k_1.Least)), .im 2 (.sc (.int .i64 k_1.Stagger))]), (2, .v false [.im 2 (.sc (.int .i64 step_2))]), (3, .v false [.im 2 (.sc (.int .i64 budget_3))])]) (B := [(0, none), (1, none), (2, none), (3, none)]) (nt := 61) rfl rfl Try.func20 rfl rfl rfl rfl ?_
  refine Go.seq ?_
  refine Go.r0 c20 rfl rfl (sq z20 (oBx rfl tF29 rfl (tkI (tkI tk0))) <| sq z20 (oBx rfl tF31 rfl (tkI (tkI (tkI (tkI tk0))))) <| sq z20 (oAsN rfl rfl eF26) <| sq z20 (oAsI rfl rfl) <| sq z20 (oAsI rfl rfl) <| nl) ?_
  refine Unw.seq ?_
  refine Go.seq ?_
  obtain ⟨x17, hx17, h⟩ := bs h
  refine Go.r0 c20 rfl rfl (sq z20 (oLd (cs := [.im 0 _, .im 0 _]) rfl tF29 rfl rfl) <| sq z20 (oLd (cs := [.im 0 _, .im 0 _, .im 0 _, .im 0 _]) rfl tF31 rfl rfl) <| sq z20 (oCa (xs := [.v true [.im 0 _, .im 0 _], .v true [.im 0 _, .im 0 _, .im 0 _, .im 0 _]]) (vs := [(false, [.im 0 _]), (false, [.im 0 _])]) (v := .tup [(false, [.im 0 _]), (false, [.im 0 _])]) (L_impl_RowCount hx17) rfl rfl kF31_29_31 rfl (ppC rfl (ppC rfl pp0)) rfl rfl pb0 rfl rfl rfl) <| sq z20 (oMvT rfl rfl) <| sq z20 (oEx rfl rfl rfl) <| sq z20 (oEx rfl rfl rfl) <| sq z20 (oAsI rfl rfl) <| sq z20 (oAsI rfl rfl) <| nl) ?_
  refine Unw.seq ?_
  refine Go.seq ?_
  refine Go.seq ?_
  obtain ⟨t_33_m2, hm9, h⟩ := bs h
  refine Go.rX c20 rfl rfl rfl (mk [(2, iv step_2), (3, iv budget_3), (4, .v false [.mp 4 0 0]), (5, .v false [.mp 5 0 0]), (11, iv x17.1), (12, iv x17.2), (33, bv t_33_m2)] [(4, some ⟨0, 0, false, true, false, true, [⟨.imm, 0, 0, .sc (.int .i64 r_0.Width)⟩, ⟨.imm, 0, 0, .sc (.int .i64 r_0.Length)⟩]⟩), (5, some ⟨0, 0, false, true, false, true, [⟨.imm, 0, 0, .sc (.int .i64 k_1.Board)⟩, ⟨.imm, 0, 0, .sc (.int .i64 k_1.Wide)⟩, ⟨.imm, 0, 0, .sc (.int .i64 k_1.Least)⟩, ⟨.imm, 0, 0, .sc (.int .i64 k_1.Stagger)⟩]⟩)]) ?_ ?_
  · by_cases hc1 : x17.2 = 0
    · rw [if_pos hc1] at hm9
      obtain ⟨x26, hx26, hm9⟩ := bs hm9
      by_cases hc2 : x26 = true
      · rw [if_pos hc2] at hm9
        obtain ⟨x30, hx30, hm9⟩ := bs hm9
        cases hm9
        exact ⟨_, sq z20 (oMv rfl rfl) <| sq z20 (oBi rfl rfl rfl rfl) <| sq z20 (oMv rfl rfl) <| sgT z20 rfl rfl (iEq.2 hc1) (oMv rfl rfl) <| sgT z20 rfl rfl (iEq.2 hc1) (oFA (r' := .mp 5 0 0) rfl fF31_0 rfl rfl) <| sgT z20 rfl rfl (iEq.2 hc1) (oLd (cs := [.im 0 _]) rfl tF2 rfl rfl) <| sgT z20 rfl rfl (iEq.2 hc1) (oCa (xs := [.v false [.im 2 _], .v false [.im 0 _], .v false [.im 0 _]]) (vs := [(false, [.im 0 _])]) (v := .v false [.im 0 _]) (L_impl_within hx26) rfl rfl kF37_2_2_2 rfl (ppC rfl (ppC rfl (ppC rfl pp0))) rfl rfl pb0 rfl rfl rfl) <| sgT z20 rfl rfl (iEq.2 hc1) (oUn rfl rfl rfl) <| sgT z20 rfl rfl (iEq.2 hc1) (oMv rfl rfl) <| sgT z20 rfl rfl (nF (Iff.rfl.2 hc2)) (oMv rfl rfl) <| sgT z20 rfl rfl (nF (Iff.rfl.2 hc2)) (oCa (xs := [.v false [.im 2 _], .v false [.im 0 _], .v false [.im 0 _]]) (vs := [(false, [.im 0 _])]) (v := .v false [.im 0 _]) (L_impl_within hx30) rfl rfl kF37_2_2_2 rfl (ppC rfl (ppC rfl (ppC rfl pp0))) rfl rfl pb0 rfl rfl rfl) <| sgT z20 rfl rfl (nF (Iff.rfl.2 hc2)) (oUn rfl rfl rfl) <| sgT z20 rfl rfl (iEq.2 hc1) (oPkF rfl rfl (nF (Iff.rfl.2 hc2)) rfl) <| sq z20 (oPkT rfl rfl (iEq.2 hc1) rfl) <| nl, (by kernel_rfl)⟩
      · rw [if_neg hc2] at hm9
        cases hm9
        exact ⟨_, sq z20 (oMv rfl rfl) <| sq z20 (oBi rfl rfl rfl rfl) <| sq z20 (oMv rfl rfl) <| sgT z20 rfl rfl (iEq.2 hc1) (oMv rfl rfl) <| sgT z20 rfl rfl (iEq.2 hc1) (oFA (r' := .mp 5 0 0) rfl fF31_0 rfl rfl) <| sgT z20 rfl rfl (iEq.2 hc1) (oLd (cs := [.im 0 _]) rfl tF2 rfl rfl) <| sgT z20 rfl rfl (iEq.2 hc1) (oCa (xs := [.v false [.im 2 _], .v false [.im 0 _], .v false [.im 0 _]]) (vs := [(false, [.im 0 _])]) (v := .v false [.im 0 _]) (L_impl_within hx26) rfl rfl kF37_2_2_2 rfl (ppC rfl (ppC rfl (ppC rfl pp0))) rfl rfl pb0 rfl rfl rfl) <| sgT z20 rfl rfl (iEq.2 hc1) (oUn rfl rfl rfl) <| sgT z20 rfl rfl (iEq.2 hc1) (oMv rfl rfl) <| sgF rfl rfl (nT (byF Iff.rfl hc2)) rfl <| sgF rfl rfl (nT (byF Iff.rfl hc2)) rfl <| sgF rfl rfl (nT (byF Iff.rfl hc2)) rfl <| sgT z20 rfl rfl (iEq.2 hc1) (oPkT rfl rfl (nT (byF Iff.rfl hc2)) rfl) <| sq z20 (oPkT rfl rfl (iEq.2 hc1) rfl) <| nl, (by kernel_rfl)⟩
    · rw [if_neg hc1] at hm9
      cases hm9
      exact ⟨_, sq z20 (oMv rfl rfl) <| sq z20 (oBi rfl rfl rfl rfl) <| sq z20 (oMv rfl rfl) <| sgF rfl rfl (byF iEq hc1) rfl <| sgF rfl rfl (byF iEq hc1) rfl <| sgF rfl rfl (byF iEq hc1) rfl <| sgF rfl rfl (byF iEq hc1) rfl <| sgF rfl rfl (byF iEq hc1) rfl <| sgF rfl rfl (byF iEq hc1) rfl <| sgU rfl rfl rfl <| sgU rfl rfl rfl <| sgU rfl rfl rfl <| sgF rfl rfl (byF iEq hc1) rfl <| sq z20 (oPkF rfl rfl (byF iEq hc1) rfl) <| nl, (by kernel_rfl)⟩
  · refine Unw.seq ?_
    refine Go.join (fun st => ∃ code_12_r4, impl_BestFloor_k4 budget_3 k_1 r_0 step_2 x17 code_12_r4 = some r ∧ st.norm ([2, 3, 4, 5, 11, 12], [4, 5]) = mk [(2, iv step_2), (3, iv budget_3), (4, .v false [.mp 4 0 0]), (5, .v false [.mp 5 0 0]), (11, iv x17.1), (12, iv code_12_r4)] [(4, some ⟨0, 0, false, true, false, true, [⟨.imm, 0, 0, .sc (.int .i64 r_0.Width)⟩, ⟨.imm, 0, 0, .sc (.int .i64 r_0.Length)⟩]⟩), (5, some ⟨0, 0, false, true, false, true, [⟨.imm, 0, 0, .sc (.int .i64 k_1.Board)⟩, ⟨.imm, 0, 0, .sc (.int .i64 k_1.Wide)⟩, ⟨.imm, 0, 0, .sc (.int .i64 k_1.Least)⟩, ⟨.imm, 0, 0, .sc (.int .i64 k_1.Stagger)⟩]⟩)]) ?_ ?_
    · rintro st ⟨code_12_r4, h, hst⟩
      unfold impl_BestFloor_k4 at h
      refine Unw.seq ?_
      refine Go.seq ?_
      refine Go.seq ?_
      refine Go.r1 c20 rfl rfl hst (sq z20 (oMv rfl rfl) <| sq z20 (oBi rfl rfl rfl rfl) <| nl) ?_
      refine Unw.seq ?_
      by_cases hc4 : code_12_r4 ≠ 0
      · rw [if_pos hc4] at h
        refine Go.condT rfl (iNe.2 hc4) ?_
        refine Go.seq ?_
        refine Go.r0 c20 rfl rfl (sq z20 (oMv rfl rfl) <| sq z20 (oAsN rfl rfl eF26) <| sq z20 (oAsI rfl rfl) <| sq z20 (oAsI rfl rfl) <| nl) ?_
        refine Unw.seq ?_
        refine Go.ret (Unw.ret ?_)
        cases h
        exact Fin_ret (fin_of rfl rF20 rfl (by kernel_rfl))
      · rw [if_neg hc4] at h
        refine Go.condF rfl (byF iNe hc4) ?_
        refine Go.skip ?_
        refine Unw.seq ?_
        refine Go.seq ?_
        refine Go.r0 c20 rfl rfl (sq z20 (oLd (cs := [.im 0 _, .im 0 _]) rfl tF29 rfl rfl) <| sq z20 (oLd (cs := [.im 0 _, .im 0 _, .im 0 _, .im 0 _]) rfl tF31 rfl rfl) <| sq z20 (oMv rfl rfl) <| sq z20 (oMv rfl rfl) <| sq z20 (oMv rfl rfl) <| sq z20 (oBu (cs := [.im 0 _, .im 0 _, .im 0 _, .im 0 _, .im 0 _, .im 0 _, .im 0 _, .im 0 _, .im 0 _, .im 0 _, .nil, .im 0 _]) rfl bF72 rfl) <| sq z20 (oBx rfl tF72 rfl (tkI (tkI (tkI (tkI (tkI (tkI (tkI (tkI (tkI (tkI (tkN (tkI tk0))))))))))))) <| sq z20 (oAsP rfl rfl) <| nl) ?_
        refine Unw.seq ?_
        refine Go.seq ?_
        refine Go.block ?_
        refine Go.seq ?_
        obtain ⟨x46, hx46, h⟩ := bs h
        refine Go.r1 c20 rfl rfl (st1 := mk [(13, .v false [.mp 43 0 0])] [(43, some ⟨0, 0, false, true, false, true, [⟨.imm, 0, 0, .sc (.int .i64 r_0.Width)⟩, ⟨.imm, 0, 0, .sc (.int .i64 r_0.Length)⟩, ⟨.imm, 0, 0, .sc (.int .i64 k_1.Board)⟩, ⟨.imm, 0, 0, .sc (.int .i64 k_1.Wide)⟩, ⟨.imm, 0, 0, .sc (.int .i64 k_1.Least)⟩, ⟨.imm, 0, 0, .sc (.int .i64 k_1.Stagger)⟩, ⟨.imm, 0, 0, .sc (.int .i64 step_2)⟩, ⟨.imm, 0, 0, .sc (.int .i64 x17.1)⟩, ⟨.imm, 0, 0, .sc (.int .i64 budget_3)⟩, ⟨.imm, 0, 0, .sc (.bool false)⟩, ⟨.sh, 0, 0, .row 1 (List.map eI ([] : List Int))⟩, ⟨.imm, 0, 0, .sc (.int .i64 0)⟩]⟩)]) (by kernel_rfl) (sq z20 (oMv rfl rfl) <| sq z20 (oCa (xs := [.v false [.mp 43 0 0], .v false [.nil], .v false [.im 0 _], .v false [.im 0 _]]) (vs := [(false, [.im 0 _])]) (v := .v false [.im 0 _]) (L_impl_floorSearch_run hx46) rfl rfl kF38_70_26_60_2 rfl (ppPx (ob' := ⟨0, 0, false, true, false, true, [⟨.imm, 0, 0, .sc (.int .i64 r_0.Width)⟩, ⟨.imm, 0, 0, .sc (.int .i64 r_0.Length)⟩, ⟨.imm, 0, 0, .sc (.int .i64 k_1.Board)⟩, ⟨.imm, 0, 0, .sc (.int .i64 k_1.Wide)⟩, ⟨.imm, 0, 0, .sc (.int .i64 k_1.Least)⟩, ⟨.imm, 0, 0, .sc (.int .i64 k_1.Stagger)⟩, ⟨.imm, 0, 0, .sc (.int .i64 step_2)⟩, ⟨.imm, 0, 0, .sc (.int .i64 x17.1)⟩, ⟨.imm, 0, 0, .sc (.int .i64 budget_3)⟩, ⟨.imm, 0, 0, .sc (.bool false)⟩, ⟨.sh, 0, 0, .row 1 (List.map eI ([] : List Int))⟩, ⟨.imm, 0, 0, .sc (.int .i64 0)⟩]⟩) rfl rfl rfl (by kernel_rfl) (ppM take_nil (ppC rfl (ppC rfl pp0)))) rfl rfl (pbPx (ob' := ⟨0, 1, false, true, false, true, [⟨.imm, 1, 0, .sc (.int .i64 x46.2.room.Width)⟩, ⟨.imm, 1, 0, .sc (.int .i64 x46.2.room.Length)⟩, ⟨.imm, 1, 0, .sc (.int .i64 x46.2.stock.Board)⟩, ⟨.imm, 1, 0, .sc (.int .i64 x46.2.stock.Wide)⟩, ⟨.imm, 1, 0, .sc (.int .i64 x46.2.stock.Least)⟩, ⟨.imm, 1, 0, .sc (.int .i64 x46.2.stock.Stagger)⟩, ⟨.imm, 1, 0, .sc (.int .i64 x46.2.step)⟩, ⟨.imm, 1, 0, .sc (.int .i64 x46.2.rows)⟩, ⟨.imm, 1, 0, .sc (.int .i64 x46.2.left)⟩, ⟨.imm, 1, 0, .sc (.bool x46.2.found)⟩, ⟨.sh, 1, 0, .row 1 (List.map eI x46.2.best)⟩, ⟨.imm, 1, 0, .sc (.int .i64 x46.2.least)⟩]⟩) rfl rfl (by kernel_rfl) pb0) rfl rfl rfl) <| sq z20 (oAsI rfl rfl) <| nl) ?_
        refine Unw.seq ?_
        by_cases hc5 : x46.1 = true
        · rw [if_pos hc5] at h
          refine Go.condT rfl (Iff.rfl.2 hc5) ?_
          refine Go.seq ?_
          refine Go.r1 c20 rfl rfl (st1 := mk [] []) (by kernel_rfl) (sq z20 (oAsN rfl rfl eF26) <| sq z20 (oAsI rfl rfl) <| sq z20 (oAsI rfl rfl) <| nl) ?_
          refine Unw.seq ?_
          refine Go.ret (Unw.ret ?_)
          cases h
          exact Fin_ret (fin_of rfl rF20 rfl (by kernel_rfl))
        · rw [if_neg hc5] at h
          refine Go.condF rfl (byF Iff.rfl hc5) ?_
          refine Go.seq ?_
          refine Go.r1 c20 rfl rfl (st1 := mk [(13, .v false [.mp 43 0 0])] [(43, some ⟨0, 0, false, true, false, true, [⟨.imm, 0, 0, .sc (.int .i64 x46.2.room.Width)⟩, ⟨.imm, 0, 0, .sc (.int .i64 x46.2.room.Length)⟩, ⟨.imm, 0, 0, .sc (.int .i64 x46.2.stock.Board)⟩, ⟨.imm, 0, 0, .sc (.int .i64 x46.2.stock.Wide)⟩, ⟨.imm, 0, 0, .sc (.int .i64 x46.2.stock.Least)⟩, ⟨.imm, 0, 0, .sc (.int .i64 x46.2.stock.Stagger)⟩, ⟨.imm, 0, 0, .sc (.int .i64 x46.2.step)⟩, ⟨.imm, 0, 0, .sc (.int .i64 x46.2.rows)⟩, ⟨.imm, 0, 0, .sc (.int .i64 x46.2.left)⟩, ⟨.imm, 0, 0, .sc (.bool x46.2.found)⟩, ⟨.sh, 0, 0, .row 1 (List.map eI x46.2.best)⟩, ⟨.imm, 0, 0, .sc (.int .i64 x46.2.least)⟩]⟩)]) (by kernel_rfl) (sq z20 (oMv rfl rfl) <| sq z20 (oNl rfl rfl rfl) <| sq z20 (oFA (r' := .mp 43 0 9) rfl fF72_5 rfl rfl) <| sq z20 (oLd (cs := [.im 0 _]) rfl tF4 rfl rfl) <| sq z20 (oUn rfl rfl rfl) <| sq z20 (oAsI rfl rfl) <| nl) ?_
          refine Unw.seq ?_
          by_cases hc6 : x46.2.found = true
          · rw [if_pos hc6] at h
            refine Go.condF rfl (nF (Iff.rfl.2 hc6)) ?_
            refine Go.skip ?_
            refine Unw.blk ?_
            refine Unw.seq ?_
            refine Go.seq ?_
            refine Go.dr c20 rfl rfl rfl rfl (mk [(8, .v false [.own 8 0 0]), (9, iv x46.2.least), (10, iv 0)] [(8, some ⟨0, 0, false, false, false, false, [⟨.sh, 0, 0, .row 1 (List.map eI x46.2.best)⟩]⟩)]) (sT rfl (dN z20 rfl (oMv rfl rfl)) <| sT rfl (dN z20 rfl (oNl rfl rfl rfl)) <| sT rfl (dN z20 rfl (oFA (r' := .mp 43 0 10) rfl fF72_6 rfl rfl)) <| sT rfl (dN z20 rfl (oLd (cs := [.own 43 0 10]) rfl tF26 rfl rfl)) <| sT rfl (dN z20 rfl (oMv rfl rfl)) <| sF (dN z20 rfl (oNl rfl rfl rfl)) (sF (dN z20 rfl (oFA (r' := .mp 43 0 11) rfl fF72_7 rfl rfl)) (sF (dN z20 rfl (oLd (cs := [.im 0 _]) rfl tF2 rfl rfl)) (sS (dN z20 rfl (oAsO rfl rfl rfl rfl rfl)) (sS (dN z20 rfl (oAsI rfl rfl)) (sS (dN z20 rfl (oAsI rfl rfl)) (sD (by kernel_rfl))))) (sS (dN z20 rfl (oAsO rfl rfl rfl rfl rfl)) (sT rfl (dN z20 rfl (oLd (cs := [.im 0 _]) rfl tF2 rfl rfl)) <| sS (dN z20 rfl (oAsI rfl rfl)) (sS (dN z20 rfl (oAsI rfl rfl)) (sD (by kernel_rfl)))))) (sS (dN z20 rfl (oAsO rfl rfl rfl rfl rfl)) (sT rfl (dN z20 rfl (oFA (r' := .mp 43 0 11) rfl fF72_7 rfl rfl)) <| sT rfl (dN z20 rfl (oLd (cs := [.im 0 _]) rfl tF2 rfl rfl)) <| sS (dN z20 rfl (oAsI rfl rfl)) (sS (dN z20 rfl (oAsI rfl rfl)) (sD (by kernel_rfl)))))) (sS (dN z20 rfl (oAsO rfl rfl rfl rfl rfl)) (sT rfl (dN z20 rfl (oNl rfl rfl rfl)) <| sT rfl (dN z20 rfl (oFA (r' := .mp 43 0 11) rfl fF72_7 rfl rfl)) <| sT rfl (dN z20 rfl (oLd (cs := [.im 0 _]) rfl tF2 rfl rfl)) <| sS (dN z20 rfl (oAsI rfl rfl)) (sS (dN z20 rfl (oAsI rfl rfl)) (sD (by kernel_rfl)))))) ?_
            refine Unw.seq ?_
            refine Go.ret (Unw.ret ?_)
            cases h
            exact Fin_ret (fin_of rfl rF20 rfl (by kernel_rfl))
          · rw [if_neg hc6] at h
            refine Go.condT rfl (nT (byF Iff.rfl hc6)) ?_
            refine Go.seq ?_
            refine Go.r0 c20 rfl rfl (sq z20 (oAsN rfl rfl eF26) <| sq z20 (oAsI rfl rfl) <| sq z20 (oAsI rfl rfl) <| nl) ?_
            refine Unw.seq ?_
            refine Go.ret (Unw.ret ?_)
            cases h
            exact Fin_ret (fin_of rfl rF20 rfl (by kernel_rfl))
    · intro K7
      by_cases hc8 : t_33_m2 = true
      · rw [if_pos hc8] at h
        refine Go.condT rfl (Iff.rfl.2 hc8) ?_
        refine Go.r0 c20 rfl rfl (sq z20 (oAsI rfl rfl) <| nl) ?_
        exact K7 _ ⟨2, h, (by kernel_rfl)⟩
      · rw [if_neg hc8] at h
        refine Go.condF rfl (byF Iff.rfl hc8) ?_
        refine Go.skip ?_
        exact K7 _ ⟨x17.2, h, (by kernel_rfl)⟩
theorem L_laws_eqInt64S {a_0 : (List Int)} {b_1 : (List Int)} {r : Bool} (h : laws_eqInt64S a_0 b_1 = some r) : FL Try.prog cfg 12 [.im 2 false [.row 1 (List.map eI a_0)], .im 2 false [.row 1 (List.map eI b_1)]] = some ([(false, [.im 0 (.sc (.bool r))])], []) := by
  unfold laws_eqInt64S at h
  refine FL_goS (A := [(0, .v false [.im 2 (.row 1 (List.map eI a_0))]), (1, .v false [.im 2 (.row 1 (List.map eI b_1))])]) (B := [(0, none), (1, none)]) (nt := 26) rfl rfl Try.func12 rfl rfl rfl rfl ?_
  refine Go.seq ?_
  refine Go.r0 c12 rfl rfl (sq z12 (oAsI rfl rfl) <| nl) ?_
  refine Unw.seq ?_
  refine Go.seq ?_
  refine Go.seq ?_
  refine Go.r0 c12 rfl rfl (sq z12 (oMv rfl rfl) <| sq z12 (oLnI rfl rfl uF26 rfl) <| sq z12 (oMv rfl rfl) <| sq z12 (oLnI rfl rfl uF26 rfl) <| sq z12 (oBi rfl rfl rfl rfl) <| nl) ?_
  refine Unw.seq ?_
  by_cases hc1 : (a_0.length : Int) ≠ (b_1.length : Int)
  · rw [if_pos hc1] at h
    refine Go.condT rfl (iNe.2 hc1) ?_
    refine Go.seq ?_
    refine Go.r0 c12 rfl rfl (sq z12 (oAsI rfl rfl) <| nl) ?_
    refine Unw.seq ?_
    refine Go.ret (Unw.ret ?_)
    cases h
    exact Fin_ret (fin_of rfl rF12 rfl (by kernel_rfl))
  · rw [if_neg hc1] at h
    refine Go.condF rfl (byF iNe hc1) ?_
    refine Go.skip ?_
    refine Unw.seq ?_
    refine Go.seq ?_
    refine Go.seq ?_
    refine Go.r0 c12 rfl rfl (sq z12 (oAsI rfl rfl) <| nl) ?_
    refine Unw.seq ?_
    refine Go.block ?_
    obtain ⟨o, hl, h⟩ := bs h
    refine Go.lp c12 rfl _ (fun (i_5_l4 : Int) => mk [(0, .v false [.im 2 (.row 1 (List.map eI a_0))]), (1, .v false [.im 2 (.row 1 (List.map eI b_1))]), (5, iv i_5_l4)] []) (fun (o : (Unit ⊕ Bool)) (p : Ex × St) => match o with | (.inl _) => p.1 = .exit 0 ∧ p.2.norm ([], []) = mk [] [] | (.inr r2) => p.1 = .ret ∧ fin Try.prog cfg 12 Try.f12 [.im 2 false [.row 1 (List.map eI a_0)], .im 2 false [.row 1 (List.map eI b_1)]] p.2 = some ([(false, [.im 0 (.sc (.bool r2))])], [])) hl (by kernel_rfl) ?_ ?_ ?_
    · intro o p hp e
      rcases o with u | r2 <;> exact nomatch (hp.1.symm.trans e)
    · rintro i_5_l4 o h
      unfold laws_eqInt64S_l4 at h
      refine Go.seq ?_
      refine Go.seq ?_
      refine Go.r0 c12 rfl rfl (sq z12 (oMv rfl rfl) <| sq z12 (oMv rfl rfl) <| sq z12 (oLnI rfl rfl uF26 rfl) <| sq z12 (oBi rfl rfl rfl rfl) <| nl) ?_
      refine Unw.seq ?_
      by_cases hc6 : i_5_l4 < (a_0.length : Int)
      · rw [if_pos hc6] at h
        refine Go.condT rfl (iDec.2 hc6) ?_
        refine Go.skip ?_
        refine Unw.seq ?_
        refine Go.seq ?_
        refine Go.block ?_
        refine Go.seq ?_
        obtain ⟨x19, hx19, h⟩ := bs h
        obtain ⟨x23, hx23, h⟩ := bs h
        refine Go.dr c12 rfl rfl rfl rfl (mk [(0, .v false [.im 2 (.row 1 (List.map eI a_0))]), (1, .v false [.im 2 (.row 1 (List.map eI b_1))]), (5, iv i_5_l4), (25, bv (x19 != x23))] []) (sT rfl (dN z12 rfl (oMv rfl rfl)) <| sT rfl (dN z12 rfl (oMv rfl rfl)) <| sT rfl (dN z12 rfl (oIAI rfl hx19 sF26 rfl rfl)) <| sT rfl (dN z12 rfl (oLd (cs := [.im 2 _]) rfl tF2 rfl rfl)) <| sT rfl (dN z12 rfl (oMv rfl rfl)) <| sT rfl (dN z12 rfl (oMv rfl rfl)) <| sT rfl (dN z12 rfl (oIAI rfl hx23 sF26 rfl rfl)) <| sT rfl (dN z12 rfl (oLd (cs := [.im 2 _]) rfl tF2 rfl rfl)) <| sT rfl (dN z12 rfl (oBi rfl rfl rfl rfl)) <| sD (by kernel_rfl)) ?_
        refine Unw.seq ?_
        by_cases hc7 : x19 ≠ x23
        · rw [if_pos hc7] at h
          refine Go.condT rfl (iNe.2 hc7) ?_
          refine Go.seq ?_
          refine Go.r0 c12 rfl rfl (sq z12 (oAsI rfl rfl) <| nl) ?_
          refine Unw.seq ?_
          refine Go.ret (Unw.ret ?_)
          cases h
          exact ⟨rfl, (fin_of rfl rF12 rfl (by kernel_rfl))⟩
        · rw [if_neg hc7] at h
          refine Go.condF rfl (byF iNe hc7) ?_
          refine Go.skip ?_
          refine Unw.blk ?_
          refine Unw.seq ?_
          refine Go.r0 c12 rfl rfl (sq z12 (oMv rfl rfl) <| sq z12 (oBi rfl rfl rfl rfl) <| sq z12 (oAsI rfl rfl) <| nl) ?_
          refine Unw.nil ?_
          cases h
          exact ⟨rfl, (by kernel_rfl)⟩
      · rw [if_neg hc6] at h
        refine Go.condF rfl (byF iDec hc6) ?_
        refine Go.exit ?_
        refine Unw.seqx ?_
        refine Unw.nil ?_
        cases h
        exact ⟨rfl, (by kernel_rfl)⟩
    · rintro ⟨e, st⟩ hp
      rcases o with u | r2
      · dsimp only at h
        obtain ⟨he, hst⟩ := hp
        obtain rfl : e = .exit 0 := he
        refine Unw.blkx ?_
        refine Unw.seq ?_
        refine Go.seq ?_
        refine Go.r1 c12 rfl rfl hst (sq z12 (oAsI rfl rfl) <| nl) ?_
        refine Unw.seq ?_
        refine Go.ret (Unw.ret ?_)
        cases h
        exact Fin_ret (fin_of rfl rF12 rfl (by kernel_rfl))
      · dsimp only at h
        obtain ⟨he, hfin⟩ := hp
        obtain rfl : e = .ret := he
        cases h
        exact Unw.ret (Fin_ret hfin)
theorem L_laws_markInt64S {a_0 : (List Int)} {k_1 : Int} {r : (Int × (List Int))} (h : laws_markInt64S a_0 k_1 = some r) : FL Try.prog cfg 15 [.ow 1 (List.map eI a_0), .im 2 false [.sc (.int .i64 k_1)]] = some ([(false, [.im 0 (.sc (.int .i64 r.1))])], [.ow 1 (List.map eI r.2)]) := by
  unfold laws_markInt64S at h
  refine FL_goS (A := [(0, .v false [.own 0 0 0]), (1, .v false [.im 2 (.sc (.int .i64 k_1))])]) (B := [(0, some ⟨0, 0, true, false, false, false, [⟨.sh, 0, 0, .row 1 (List.map eI a_0)⟩]⟩), (1, none)]) (nt := 19) rfl rfl Try.func15 rfl rfl rfl rfl ?_
  refine Go.seq ?_
  refine Go.r0 c15 rfl rfl (sq z15 (oAsI rfl rfl) <| nl) ?_
  refine Unw.seq ?_
  refine Go.seq ?_
  refine Go.seq ?_
  refine Go.r0 c15 rfl rfl (sq z15 (oAsI rfl rfl) <| nl) ?_
  refine Unw.seq ?_
  refine Go.block ?_
  obtain ⟨o, hl, h⟩ := bs h
  refine Go.lp c15 rfl _ (fun (s : (Int × Int × (List Int))) => match s with | (k_1_l2, i_5_l2, a_o0_l2) => mk [(0, .v false [.own 0 0 0]), (1, iv k_1_l2), (5, iv i_5_l2)] [(0, some ⟨0, 0, true, false, false, false, [⟨.sh, 0, 0, .row 1 (List.map eI a_o0_l2)⟩]⟩)]) (fun (o : (Int × (List Int))) (p : Ex × St) => match o with | (k_1_e0_2, a_o0_e0_2) => p.1 = .exit 0 ∧ p.2.norm ([1], [0]) = mk [(1, iv k_1_e0_2)] [(0, some ⟨0, 0, true, false, false, false, [⟨.sh, 0, 0, .row 1 (List.map eI a_o0_e0_2)⟩]⟩)]) hl (by kernel_rfl) ?_ ?_ ?_
  · intro o p hp e
    obtain ⟨k_1_e0_2, a_o0_e0_2⟩ := o
    exact nomatch (hp.1.symm.trans e)
  · rintro ⟨k_1_l2, i_5_l2, a_o0_l2⟩ o h
    unfold laws_markInt64S_l2 at h
    dsimp only at h
    refine Go.seq ?_
    refine Go.seq ?_
    refine Go.r0 c15 rfl rfl (sq z15 (oMv rfl rfl) <| sq z15 (oMv rfl rfl) <| sq z15 (oLnO rfl rfl uF26 rfl rfl rfl (fun e => nomatch e)) <| sq z15 (oBi rfl rfl rfl rfl) <| nl) ?_
    refine Unw.seq ?_
    by_cases hc3 : i_5_l2 < (a_o0_l2.length : Int)
    · rw [if_pos hc3] at h
      refine Go.condT rfl (iDec.2 hc3) ?_
      refine Go.skip ?_
      refine Unw.seq ?_
      refine Go.seq ?_
      refine Go.block ?_
      refine Go.seq ?_
      obtain ⟨x15, hx15, h⟩ := bs h
      refine Go.r0 c15 rfl rfl (sq z15 (oMv rfl rfl) <| sq z15 (oMv rfl rfl) <| sq z15 (oMv rfl rfl) <| sq z15 (oIAO rfl hx15 sF26 rfl rfl rfl rfl) <| sq z15 (oStE (v' := k_1_l2) tF2 rfl rfl rfl (fxI fx0) rfl rfl (rd_get hx15) rfl) <| nl) ?_
      refine Unw.seq ?_
      refine Go.r1 c15 rfl rfl (st1 := mk [(0, .v false [.own 0 0 0]), (1, iv k_1_l2), (5, iv i_5_l2)] [(0, some ⟨0, 0, true, false, false, false, [⟨.sh, 0, 0, .row 1 (List.map eI (a_o0_l2.set i_5_l2.toNat k_1_l2))⟩]⟩)]) (by kernel_rfl) (sq z15 (oMv rfl rfl) <| sq z15 (oBi rfl rfl rfl rfl) <| sq z15 (oAsI rfl rfl) <| nl) ?_
      refine Unw.blk ?_
      refine Unw.seq ?_
      refine Go.r0 c15 rfl rfl (sq z15 (oMv rfl rfl) <| sq z15 (oBi rfl rfl rfl rfl) <| sq z15 (oAsI rfl rfl) <| nl) ?_
      refine Unw.nil ?_
      cases h
      exact ⟨rfl, (by kernel_rfl)⟩
    · rw [if_neg hc3] at h
      refine Go.condF rfl (byF iDec hc3) ?_
      refine Go.exit ?_
      refine Unw.seqx ?_
      refine Unw.nil ?_
      cases h
      exact ⟨rfl, (by kernel_rfl)⟩
  · rintro ⟨e, st⟩ hp
    obtain ⟨k_1_e0_2, a_o0_e0_2⟩ := o
    dsimp only at h
    obtain ⟨he, hst⟩ := hp
    obtain rfl : e = .exit 0 := he
    refine Unw.blkx ?_
    refine Unw.seq ?_
    refine Go.seq ?_
    refine Go.r1 c15 rfl rfl hst (sq z15 (oMv rfl rfl) <| sq z15 (oAsI rfl rfl) <| nl) ?_
    refine Unw.seq ?_
    refine Go.ret (Unw.ret ?_)
    cases h
    exact Fin_ret (fin_of rfl rF15 rfl (by kernel_rfl))
theorem L_laws_heldInt64S {a_0 : (List Int)} {k_1 : Int} {r : Int} (h : laws_heldInt64S a_0 k_1 = some r) : FL Try.prog cfg 16 [.im 2 false [.row 1 (List.map eI a_0)], .im 2 false [.sc (.int .i64 k_1)]] = some ([(false, [.im 0 (.sc (.int .i64 r))])], []) := by
  unfold laws_heldInt64S at h
  refine FL_goS (A := [(0, .v false [.im 2 (.row 1 (List.map eI a_0))]), (1, .v false [.im 2 (.sc (.int .i64 k_1))])]) (B := [(0, none), (1, none)]) (nt := 21) rfl rfl Try.func16 rfl rfl rfl rfl ?_
  refine Go.seq ?_
  refine Go.r0 c16 rfl rfl (sq z16 (oAsI rfl rfl) <| nl) ?_
  refine Unw.seq ?_
  refine Go.seq ?_
  refine Go.seq ?_
  refine Go.r0 c16 rfl rfl (sq z16 (oAsI rfl rfl) <| nl) ?_
  refine Unw.seq ?_
  refine Go.block ?_
  obtain ⟨o, hl, h⟩ := bs h
  refine Go.lp c16 rfl _ (fun (s : (Int × Int)) => match s with | (k_1_l2, i_5_l2) => mk [(0, .v false [.im 2 (.row 1 (List.map eI a_0))]), (1, iv k_1_l2), (5, iv i_5_l2)] []) (fun (o : (Int ⊕ Int)) (p : Ex × St) => match o with | (.inl k_1_e0_2) => p.1 = .exit 0 ∧ p.2.norm ([1], []) = mk [(1, iv k_1_e0_2)] [] | (.inr r2) => p.1 = .ret ∧ fin Try.prog cfg 16 Try.f16 [.im 2 false [.row 1 (List.map eI a_0)], .im 2 false [.sc (.int .i64 k_1)]] p.2 = some ([(false, [.im 0 (.sc (.int .i64 r2))])], [])) hl (by kernel_rfl) ?_ ?_ ?_
  · intro o p hp e
    rcases o with k_1_e0_2 | r2 <;> exact nomatch (hp.1.symm.trans e)
  · rintro ⟨k_1_l2, i_5_l2⟩ o h
    unfold laws_heldInt64S_l2 at h
    dsimp only at h
    refine Go.seq ?_
    refine Go.seq ?_
    refine Go.r0 c16 rfl rfl (sq z16 (oMv rfl rfl) <| sq z16 (oMv rfl rfl) <| sq z16 (oLnI rfl rfl uF26 rfl) <| sq z16 (oBi rfl rfl rfl rfl) <| nl) ?_
    refine Unw.seq ?_
    by_cases hc5 : i_5_l2 < (a_0.length : Int)
    · rw [if_pos hc5] at h
      refine Go.condT rfl (iDec.2 hc5) ?_
      refine Go.skip ?_
      refine Unw.seq ?_
      refine Go.seq ?_
      refine Go.block ?_
      refine Go.seq ?_
      refine Go.seq ?_
      obtain ⟨x14, hx14, h⟩ := bs h
      refine Go.r0 c16 rfl rfl (sq z16 (oMv rfl rfl) <| sq z16 (oMv rfl rfl) <| sq z16 (oIAI rfl hx14 sF26 rfl rfl) <| sq z16 (oLd (cs := [.im 2 _]) rfl tF2 rfl rfl) <| sq z16 (oMv rfl rfl) <| sq z16 (oBi rfl rfl rfl rfl) <| nl) ?_
      refine Unw.seq ?_
      by_cases hc6 : x14 ≠ k_1_l2
      · rw [if_pos hc6] at h
        refine Go.condT rfl (iNe.2 hc6) ?_
        refine Go.seq ?_
        refine Go.r0 c16 rfl rfl (sq z16 (oAsI rfl rfl) <| nl) ?_
        refine Unw.seq ?_
        refine Go.ret (Unw.ret ?_)
        cases h
        exact ⟨rfl, (fin_of rfl rF16 rfl (by kernel_rfl))⟩
      · rw [if_neg hc6] at h
        refine Go.condF rfl (byF iNe hc6) ?_
        refine Go.skip ?_
        refine Unw.seq ?_
        refine Go.r0 c16 rfl rfl (sq z16 (oMv rfl rfl) <| sq z16 (oBi rfl rfl rfl rfl) <| sq z16 (oAsI rfl rfl) <| nl) ?_
        refine Unw.blk ?_
        refine Unw.seq ?_
        refine Go.r0 c16 rfl rfl (sq z16 (oMv rfl rfl) <| sq z16 (oBi rfl rfl rfl rfl) <| sq z16 (oAsI rfl rfl) <| nl) ?_
        refine Unw.nil ?_
        cases h
        exact ⟨rfl, (by kernel_rfl)⟩
    · rw [if_neg hc5] at h
      refine Go.condF rfl (byF iDec hc5) ?_
      refine Go.exit ?_
      refine Unw.seqx ?_
      refine Unw.nil ?_
      cases h
      exact ⟨rfl, (by kernel_rfl)⟩
  · rintro ⟨e, st⟩ hp
    rcases o with k_1_e0_2 | r2
    · dsimp only at h
      obtain ⟨he, hst⟩ := hp
      obtain rfl : e = .exit 0 := he
      refine Unw.blkx ?_
      refine Unw.seq ?_
      refine Go.seq ?_
      refine Go.r1 c16 rfl rfl hst (sq z16 (oMv rfl rfl) <| sq z16 (oAsI rfl rfl) <| nl) ?_
      refine Unw.seq ?_
      refine Go.ret (Unw.ret ?_)
      cases h
      exact Fin_ret (fin_of rfl rF16 rfl (by kernel_rfl))
    · dsimp only at h
      obtain ⟨he, hfin⟩ := hp
      obtain rfl : e = .ret := he
      cases h
      exact Unw.ret (Fin_ret hfin)
theorem L_laws_FnExactBestFloor {aR_0 : S_Room} {aK_1 : S_Stock} {aStep_2 : Int} {aBudget_3 : Int} {r : Bool} (h : laws_FnExactBestFloor aR_0 aK_1 aStep_2 aBudget_3 = some r) : FL Try.prog cfg 6 [.im 2 true [.sc (.int .i64 aR_0.Width), .sc (.int .i64 aR_0.Length)], .im 2 true [.sc (.int .i64 aK_1.Board), .sc (.int .i64 aK_1.Wide), .sc (.int .i64 aK_1.Least), .sc (.int .i64 aK_1.Stagger)], .im 2 false [.sc (.int .i64 aStep_2)], .im 2 false [.sc (.int .i64 aBudget_3)]] = some ([(false, [.im 0 (.sc (.bool r))])], []) := by
  unfold laws_FnExactBestFloor at h
  refine FL_goS (A := [(0, .v true [.im 2 (.sc (.int .i64 aR_0.Width)), .im 2 (.sc (.int .i64 aR_0.Length))]), (1, .v true [.im 2 (.sc (.int .i64 aK_1.Board)), .im 2 (.sc (.int .i64 aK_1.Wide)), .im 2 (.sc (.int .i64 aK_1.Least)), .im 2 (.sc (.int .i64 aK_1.Stagger))]), (2, .v false [.im 2 (.sc (.int .i64 aStep_2))]), (3, .v false [.im 2 (.sc (.int .i64 aBudget_3))])]) (B := [(0, none), (1, none), (2, none), (3, none)]) (nt := 100) rfl rfl Try.func6 rfl rfl rfl rfl ?_
  refine Go.seq ?_
  refine Go.r0 c6 rfl rfl (sq z6 (oBx rfl tF23 rfl (tkI (tkI tk0))) <| sq z6 (oBx rfl tF25 rfl (tkI (tkI (tkI (tkI tk0))))) <| sq z6 (oAsI rfl rfl) <| nl) ?_
  refine Unw.seq ?_
  refine Go.seq ?_
  obtain ⟨x22, hx22, h⟩ := bs h
  obtain ⟨x24, hx24, h⟩ := bs h
  obtain ⟨x27, hx27, h⟩ := bs h
  refine Go.dr c6 rfl rfl rfl rfl (mk [(2, iv aStep_2), (3, iv aBudget_3), (4, .v false [.mp 4 0 0]), (5, .v false [.mp 5 0 0]), (9, .v false [.own 9 0 0]), (10, iv x27.2.1), (11, iv x27.2.2)] [(4, some ⟨0, 0, false, true, false, true, [⟨.imm, 0, 0, .sc (.int .i64 aR_0.Width)⟩, ⟨.imm, 0, 0, .sc (.int .i64 aR_0.Length)⟩]⟩), (5, some ⟨0, 0, false, true, false, true, [⟨.imm, 0, 0, .sc (.int .i64 aK_1.Board)⟩, ⟨.imm, 0, 0, .sc (.int .i64 aK_1.Wide)⟩, ⟨.imm, 0, 0, .sc (.int .i64 aK_1.Least)⟩, ⟨.imm, 0, 0, .sc (.int .i64 aK_1.Stagger)⟩]⟩), (9, some ⟨0, 0, false, false, false, false, [⟨.sh, 0, 0, .row 1 (List.map eI x27.1)⟩]⟩)]) (sT rfl (dN z6 rfl (oLd (cs := [.im 0 _, .im 0 _]) rfl tF23 rfl rfl)) <| sT rfl (dN z6 rfl (oLd (cs := [.im 0 _, .im 0 _, .im 0 _, .im 0 _]) rfl tF25 rfl rfl)) <| sT rfl (dN z6 rfl (oMv rfl rfl)) <| sT rfl (dN z6 rfl (oMv rfl rfl)) <| sS (dN z6 rfl (oCa (xs := [.v true [.im 0 _, .im 0 _]]) (vs := [(true, [.im 0 _, .im 0 _])]) (v := .v true [.im 0 _, .im 0 _]) (L_laws_toRoom hx22) rfl rfl kF8_23 rfl (ppC rfl pp0) rfl rfl pb0 rfl rfl rfl)) (sS (dN z6 rfl (oCa (xs := [.v true [.im 0 _, .im 0 _, .im 0 _, .im 0 _]]) (vs := [(true, [.im 0 _, .im 0 _, .im 0 _, .im 0 _])]) (v := .v true [.im 0 _, .im 0 _, .im 0 _, .im 0 _]) (L_laws_toStock hx24) rfl rfl kF9_25 rfl (ppC rfl pp0) rfl rfl pb0 rfl rfl rfl)) (sS (dN z6 rfl (oCr (xs := [.v true [.im 0 _, .im 0 _], .v true [.im 0 _, .im 0 _, .im 0 _, .im 0 _], .v false [.im 2 _], .v false [.im 2 _]]) (vs := [(false, [.own 27 0 0]), (false, [.im 0 _]), (false, [.im 0 _])]) (v := .tup [(false, [.own 27 0 0]), (false, [.im 0 _]), (false, [.im 0 _])]) (c := ⟨.sh, 0, _⟩) (cs := []) (L_spec_BestFloor hx27) rfl rfl kF19_29_31_2_2 rfl (ppC rfl (ppC rfl (ppC rfl (ppC rfl pp0)))) rfl rfl pb0 rfl rfl rfl)) (sT rfl (dN z6 rfl (oMvT rfl rfl)) <| sT rfl (dN z6 rfl (oEx rfl rfl rfl)) <| sF (dN z6 rfl (oEx rfl rfl rfl)) (sF (dN z6 rfl (oEx rfl rfl rfl)) (sS (dN z6 rfl (oAsO rfl rfl rfl rfl rfl)) (sS (dN z6 rfl (oAsI rfl rfl)) (sS (dN z6 rfl (oAsI rfl rfl)) (sD (by kernel_rfl))))) (sS (dN z6 rfl (oAsO rfl rfl rfl rfl rfl)) (sF (dN z6 rfl (oEx rfl rfl rfl)) (sS (dN z6 rfl (oAsI rfl rfl)) (sS (dN z6 rfl (oAsI rfl rfl)) (sD (by kernel_rfl)))) (sS (dN z6 rfl (oAsI rfl rfl)) (sT rfl (dN z6 rfl (oEx rfl rfl rfl)) <| sS (dN z6 rfl (oAsI rfl rfl)) (sD (by kernel_rfl))))))) (sF (dN z6 rfl (oEx rfl rfl rfl)) (sF (dN z6 rfl (oEx rfl rfl rfl)) (sS (dN z6 rfl (oAsO rfl rfl rfl rfl rfl)) (sS (dN z6 rfl (oAsI rfl rfl)) (sS (dN z6 rfl (oAsI rfl rfl)) (sD (by kernel_rfl))))) (sS (dN z6 rfl (oAsO rfl rfl rfl rfl rfl)) (sT rfl (dN z6 rfl (oEx rfl rfl rfl)) <| sS (dN z6 rfl (oAsI rfl rfl)) (sS (dN z6 rfl (oAsI rfl rfl)) (sD (by kernel_rfl)))))) (sS (dN z6 rfl (oAsO rfl rfl rfl rfl rfl)) (sT rfl (dN z6 rfl (oEx rfl rfl rfl)) <| sF (dN z6 rfl (oEx rfl rfl rfl)) (sS (dN z6 rfl (oAsI rfl rfl)) (sS (dN z6 rfl (oAsI rfl rfl)) (sD (by kernel_rfl)))) (sS (dN z6 rfl (oAsI rfl rfl)) (sT rfl (dN z6 rfl (oEx rfl rfl rfl)) <| sS (dN z6 rfl (oAsI rfl rfl)) (sD (by kernel_rfl))))))))))) ?_
  refine Unw.seq ?_
  refine Go.seq ?_
  obtain ⟨x33, hx33, h⟩ := bs h
  obtain ⟨x35, hx35, h⟩ := bs h
  obtain ⟨x38, hx38, h⟩ := bs h
  refine Go.dr c6 rfl rfl rfl rfl (mk [(2, iv aStep_2), (3, iv aBudget_3), (4, .v false [.mp 4 0 0]), (5, .v false [.mp 5 0 0]), (9, .v false [.own 9 0 0]), (10, iv x27.2.1), (11, iv x27.2.2), (12, .v false [.own 12 0 0]), (13, iv x38.2.1), (14, iv x38.2.2)] [(4, some ⟨0, 0, false, true, false, true, [⟨.imm, 0, 0, .sc (.int .i64 aR_0.Width)⟩, ⟨.imm, 0, 0, .sc (.int .i64 aR_0.Length)⟩]⟩), (5, some ⟨0, 0, false, true, false, true, [⟨.imm, 0, 0, .sc (.int .i64 aK_1.Board)⟩, ⟨.imm, 0, 0, .sc (.int .i64 aK_1.Wide)⟩, ⟨.imm, 0, 0, .sc (.int .i64 aK_1.Least)⟩, ⟨.imm, 0, 0, .sc (.int .i64 aK_1.Stagger)⟩]⟩), (9, some ⟨0, 0, false, false, false, false, [⟨.sh, 0, 0, .row 1 (List.map eI x27.1)⟩]⟩), (12, some ⟨0, 0, false, false, false, false, [⟨.sh, 0, 0, .row 1 (List.map eI x38.1)⟩]⟩)]) (sT rfl (dN z6 rfl (oLd (cs := [.im 0 _, .im 0 _]) rfl tF23 rfl rfl)) <| sT rfl (dN z6 rfl (oLd (cs := [.im 0 _, .im 0 _, .im 0 _, .im 0 _]) rfl tF25 rfl rfl)) <| sT rfl (dN z6 rfl (oMv rfl rfl)) <| sT rfl (dN z6 rfl (oMv rfl rfl)) <| sS (dN z6 rfl (oCa (xs := [.v true [.im 0 _, .im 0 _]]) (vs := [(true, [.im 0 _, .im 0 _])]) (v := .v true [.im 0 _, .im 0 _]) (L_laws_toRoom hx33) rfl rfl kF8_23 rfl (ppC rfl pp0) rfl rfl pb0 rfl rfl rfl)) (sS (dN z6 rfl (oCa (xs := [.v true [.im 0 _, .im 0 _, .im 0 _, .im 0 _]]) (vs := [(true, [.im 0 _, .im 0 _, .im 0 _, .im 0 _])]) (v := .v true [.im 0 _, .im 0 _, .im 0 _, .im 0 _]) (L_laws_toStock hx35) rfl rfl kF9_25 rfl (ppC rfl pp0) rfl rfl pb0 rfl rfl rfl)) (sS (dN z6 rfl (oCr (xs := [.v true [.im 0 _, .im 0 _], .v true [.im 0 _, .im 0 _, .im 0 _, .im 0 _], .v false [.im 0 _], .v false [.im 0 _]]) (vs := [(false, [.own 38 0 0]), (false, [.im 0 _]), (false, [.im 0 _])]) (v := .tup [(false, [.own 38 0 0]), (false, [.im 0 _]), (false, [.im 0 _])]) (c := ⟨.sh, 0, _⟩) (cs := []) (L_impl_BestFloor hx38) rfl rfl kF20_29_31_2_2 rfl (ppC rfl (ppC rfl (ppC rfl (ppC rfl pp0)))) rfl rfl pb0 rfl rfl rfl)) (sT rfl (dN z6 rfl (oMvT rfl rfl)) <| sT rfl (dN z6 rfl (oEx rfl rfl rfl)) <| sF (dN z6 rfl (oEx rfl rfl rfl)) (sF (dN z6 rfl (oEx rfl rfl rfl)) (sS (dN z6 rfl (oAsO rfl rfl rfl rfl rfl)) (sS (dN z6 rfl (oAsI rfl rfl)) (sS (dN z6 rfl (oAsI rfl rfl)) (sD (by kernel_rfl))))) (sS (dN z6 rfl (oAsO rfl rfl rfl rfl rfl)) (sF (dN z6 rfl (oEx rfl rfl rfl)) (sS (dN z6 rfl (oAsI rfl rfl)) (sS (dN z6 rfl (oAsI rfl rfl)) (sD (by kernel_rfl)))) (sS (dN z6 rfl (oAsI rfl rfl)) (sT rfl (dN z6 rfl (oEx rfl rfl rfl)) <| sS (dN z6 rfl (oAsI rfl rfl)) (sD (by kernel_rfl))))))) (sF (dN z6 rfl (oEx rfl rfl rfl)) (sF (dN z6 rfl (oEx rfl rfl rfl)) (sS (dN z6 rfl (oAsO rfl rfl rfl rfl rfl)) (sS (dN z6 rfl (oAsI rfl rfl)) (sS (dN z6 rfl (oAsI rfl rfl)) (sD (by kernel_rfl))))) (sS (dN z6 rfl (oAsO rfl rfl rfl rfl rfl)) (sT rfl (dN z6 rfl (oEx rfl rfl rfl)) <| sS (dN z6 rfl (oAsI rfl rfl)) (sS (dN z6 rfl (oAsI rfl rfl)) (sD (by kernel_rfl)))))) (sS (dN z6 rfl (oAsO rfl rfl rfl rfl rfl)) (sT rfl (dN z6 rfl (oEx rfl rfl rfl)) <| sF (dN z6 rfl (oEx rfl rfl rfl)) (sS (dN z6 rfl (oAsI rfl rfl)) (sS (dN z6 rfl (oAsI rfl rfl)) (sD (by kernel_rfl)))) (sS (dN z6 rfl (oAsI rfl rfl)) (sT rfl (dN z6 rfl (oEx rfl rfl rfl)) <| sS (dN z6 rfl (oAsI rfl rfl)) (sD (by kernel_rfl))))))))))) ?_
  refine Unw.seq ?_
  refine Go.seq ?_
  refine Go.seq ?_
  obtain ⟨x44, hx44, h⟩ := bs h
  refine Go.rX c6 rfl rfl rfl (mk [(2, iv aStep_2), (3, iv aBudget_3), (4, .v false [.mp 4 0 0]), (5, .v false [.mp 5 0 0]), (9, .v false [.own 9 0 0]), (10, iv x27.2.1), (11, iv x27.2.2), (12, .v false [.own 12 0 0]), (55, bv ((!x44) || ((x38.2.1 != x27.2.1) || (x38.2.2 != x27.2.2))))] [(4, some ⟨0, 0, false, true, false, true, [⟨.imm, 0, 0, .sc (.int .i64 aR_0.Width)⟩, ⟨.imm, 0, 0, .sc (.int .i64 aR_0.Length)⟩]⟩), (5, some ⟨0, 0, false, true, false, true, [⟨.imm, 0, 0, .sc (.int .i64 aK_1.Board)⟩, ⟨.imm, 0, 0, .sc (.int .i64 aK_1.Wide)⟩, ⟨.imm, 0, 0, .sc (.int .i64 aK_1.Least)⟩, ⟨.imm, 0, 0, .sc (.int .i64 aK_1.Stagger)⟩]⟩), (9, some ⟨0, 0, false, false, false, false, [⟨.sh, 0, 0, .row 1 (List.map eI x27.1)⟩]⟩), (12, some ⟨0, 0, false, false, false, false, [⟨.sh, 0, 0, .row 1 (List.map eI x38.1)⟩]⟩)]) ?_ ?_
  · by_cases hc1 : x44 = true
    · by_cases hc2 : x38.2.1 ≠ x27.2.1
      · exact ⟨_, sq z6 (oMv rfl rfl) <| sq z6 (oMv rfl rfl) <| sq z6 (oCa (xs := [.v false [.own 12 0 0], .v false [.own 9 0 0]]) (vs := [(false, [.im 0 _])]) (v := .v false [.im 0 _]) (L_laws_eqInt64S hx44) rfl rfl kF12_26_26 rfl (ppC rfl (ppC rfl pp0)) rfl rfl pb0 rfl rfl rfl) <| sq z6 (oUn rfl rfl rfl) <| sq z6 (oMv rfl rfl) <| sgT z6 rfl rfl (nF (Iff.rfl.2 hc1)) (oMv rfl rfl) <| sgT z6 rfl rfl (nF (Iff.rfl.2 hc1)) (oMv rfl rfl) <| sgT z6 rfl rfl (nF (Iff.rfl.2 hc1)) (oBi rfl rfl rfl rfl) <| sq z6 (oPkF rfl rfl (nF (Iff.rfl.2 hc1)) rfl) <| sq z6 (oMv rfl rfl) <| sgF rfl rfl (iNe.2 hc2) rfl <| sgF rfl rfl (iNe.2 hc2) rfl <| sgF rfl rfl (iNe.2 hc2) rfl <| sq z6 (oPkT rfl rfl (iNe.2 hc2) rfl) <| nl, (Eq.trans (b := (fun t_55_m3 : Bool => mk [(2, iv aStep_2), (3, iv aBudget_3), (4, .v false [.mp 4 0 0]), (5, .v false [.mp 5 0 0]), (9, .v false [.own 9 0 0]), (10, iv x27.2.1), (11, iv x27.2.2), (12, .v false [.own 12 0 0]), (55, bv t_55_m3)] [(4, some ⟨0, 0, false, true, false, true, [⟨.imm, 0, 0, .sc (.int .i64 aR_0.Width)⟩, ⟨.imm, 0, 0, .sc (.int .i64 aR_0.Length)⟩]⟩), (5, some ⟨0, 0, false, true, false, true, [⟨.imm, 0, 0, .sc (.int .i64 aK_1.Board)⟩, ⟨.imm, 0, 0, .sc (.int .i64 aK_1.Wide)⟩, ⟨.imm, 0, 0, .sc (.int .i64 aK_1.Least)⟩, ⟨.imm, 0, 0, .sc (.int .i64 aK_1.Stagger)⟩]⟩), (9, some ⟨0, 0, false, false, false, false, [⟨.sh, 0, 0, .row 1 (List.map eI x27.1)⟩]⟩), (12, some ⟨0, 0, false, false, false, false, [⟨.sh, 0, 0, .row 1 (List.map eI x38.1)⟩]⟩)]) true) (by kernel_rfl) (congrArg (fun t_55_m3 : Bool => mk [(2, iv aStep_2), (3, iv aBudget_3), (4, .v false [.mp 4 0 0]), (5, .v false [.mp 5 0 0]), (9, .v false [.own 9 0 0]), (10, iv x27.2.1), (11, iv x27.2.2), (12, .v false [.own 12 0 0]), (55, bv t_55_m3)] [(4, some ⟨0, 0, false, true, false, true, [⟨.imm, 0, 0, .sc (.int .i64 aR_0.Width)⟩, ⟨.imm, 0, 0, .sc (.int .i64 aR_0.Length)⟩]⟩), (5, some ⟨0, 0, false, true, false, true, [⟨.imm, 0, 0, .sc (.int .i64 aK_1.Board)⟩, ⟨.imm, 0, 0, .sc (.int .i64 aK_1.Wide)⟩, ⟨.imm, 0, 0, .sc (.int .i64 aK_1.Least)⟩, ⟨.imm, 0, 0, .sc (.int .i64 aK_1.Stagger)⟩]⟩), (9, some ⟨0, 0, false, false, false, false, [⟨.sh, 0, 0, .row 1 (List.map eI x27.1)⟩]⟩), (12, some ⟨0, 0, false, false, false, false, [⟨.sh, 0, 0, .row 1 (List.map eI x38.1)⟩]⟩)]) (by first | rfl | simp [(Iff.rfl.2 hc1), (iNe.2 hc2)])))⟩
      · exact ⟨_, sq z6 (oMv rfl rfl) <| sq z6 (oMv rfl rfl) <| sq z6 (oCa (xs := [.v false [.own 12 0 0], .v false [.own 9 0 0]]) (vs := [(false, [.im 0 _])]) (v := .v false [.im 0 _]) (L_laws_eqInt64S hx44) rfl rfl kF12_26_26 rfl (ppC rfl (ppC rfl pp0)) rfl rfl pb0 rfl rfl rfl) <| sq z6 (oUn rfl rfl rfl) <| sq z6 (oMv rfl rfl) <| sgT z6 rfl rfl (nF (Iff.rfl.2 hc1)) (oMv rfl rfl) <| sgT z6 rfl rfl (nF (Iff.rfl.2 hc1)) (oMv rfl rfl) <| sgT z6 rfl rfl (nF (Iff.rfl.2 hc1)) (oBi rfl rfl rfl rfl) <| sq z6 (oPkF rfl rfl (nF (Iff.rfl.2 hc1)) rfl) <| sq z6 (oMv rfl rfl) <| sgT z6 rfl rfl (byF iNe hc2) (oMv rfl rfl) <| sgT z6 rfl rfl (byF iNe hc2) (oMv rfl rfl) <| sgT z6 rfl rfl (byF iNe hc2) (oBi rfl rfl rfl rfl) <| sq z6 (oPkF rfl rfl (byF iNe hc2) rfl) <| nl, (Eq.trans (b := (fun t_55_m3 : Bool => mk [(2, iv aStep_2), (3, iv aBudget_3), (4, .v false [.mp 4 0 0]), (5, .v false [.mp 5 0 0]), (9, .v false [.own 9 0 0]), (10, iv x27.2.1), (11, iv x27.2.2), (12, .v false [.own 12 0 0]), (55, bv t_55_m3)] [(4, some ⟨0, 0, false, true, false, true, [⟨.imm, 0, 0, .sc (.int .i64 aR_0.Width)⟩, ⟨.imm, 0, 0, .sc (.int .i64 aR_0.Length)⟩]⟩), (5, some ⟨0, 0, false, true, false, true, [⟨.imm, 0, 0, .sc (.int .i64 aK_1.Board)⟩, ⟨.imm, 0, 0, .sc (.int .i64 aK_1.Wide)⟩, ⟨.imm, 0, 0, .sc (.int .i64 aK_1.Least)⟩, ⟨.imm, 0, 0, .sc (.int .i64 aK_1.Stagger)⟩]⟩), (9, some ⟨0, 0, false, false, false, false, [⟨.sh, 0, 0, .row 1 (List.map eI x27.1)⟩]⟩), (12, some ⟨0, 0, false, false, false, false, [⟨.sh, 0, 0, .row 1 (List.map eI x38.1)⟩]⟩)]) (x38.2.2 != x27.2.2)) (by kernel_rfl) (congrArg (fun t_55_m3 : Bool => mk [(2, iv aStep_2), (3, iv aBudget_3), (4, .v false [.mp 4 0 0]), (5, .v false [.mp 5 0 0]), (9, .v false [.own 9 0 0]), (10, iv x27.2.1), (11, iv x27.2.2), (12, .v false [.own 12 0 0]), (55, bv t_55_m3)] [(4, some ⟨0, 0, false, true, false, true, [⟨.imm, 0, 0, .sc (.int .i64 aR_0.Width)⟩, ⟨.imm, 0, 0, .sc (.int .i64 aR_0.Length)⟩]⟩), (5, some ⟨0, 0, false, true, false, true, [⟨.imm, 0, 0, .sc (.int .i64 aK_1.Board)⟩, ⟨.imm, 0, 0, .sc (.int .i64 aK_1.Wide)⟩, ⟨.imm, 0, 0, .sc (.int .i64 aK_1.Least)⟩, ⟨.imm, 0, 0, .sc (.int .i64 aK_1.Stagger)⟩]⟩), (9, some ⟨0, 0, false, false, false, false, [⟨.sh, 0, 0, .row 1 (List.map eI x27.1)⟩]⟩), (12, some ⟨0, 0, false, false, false, false, [⟨.sh, 0, 0, .row 1 (List.map eI x38.1)⟩]⟩)]) (by first | rfl | simp [(Iff.rfl.2 hc1), (byF iNe hc2)])))⟩
    · exact ⟨_, sq z6 (oMv rfl rfl) <| sq z6 (oMv rfl rfl) <| sq z6 (oCa (xs := [.v false [.own 12 0 0], .v false [.own 9 0 0]]) (vs := [(false, [.im 0 _])]) (v := .v false [.im 0 _]) (L_laws_eqInt64S hx44) rfl rfl kF12_26_26 rfl (ppC rfl (ppC rfl pp0)) rfl rfl pb0 rfl rfl rfl) <| sq z6 (oUn rfl rfl rfl) <| sq z6 (oMv rfl rfl) <| sgF rfl rfl (nT (byF Iff.rfl hc1)) rfl <| sgF rfl rfl (nT (byF Iff.rfl hc1)) rfl <| sgF rfl rfl (nT (byF Iff.rfl hc1)) rfl <| sq z6 (oPkT rfl rfl (nT (byF Iff.rfl hc1)) rfl) <| sq z6 (oMv rfl rfl) <| sgF rfl rfl rfl rfl <| sgF rfl rfl rfl rfl <| sgF rfl rfl rfl rfl <| sq z6 (oPkT rfl rfl rfl rfl) <| nl, (Eq.trans (b := (fun t_55_m3 : Bool => mk [(2, iv aStep_2), (3, iv aBudget_3), (4, .v false [.mp 4 0 0]), (5, .v false [.mp 5 0 0]), (9, .v false [.own 9 0 0]), (10, iv x27.2.1), (11, iv x27.2.2), (12, .v false [.own 12 0 0]), (55, bv t_55_m3)] [(4, some ⟨0, 0, false, true, false, true, [⟨.imm, 0, 0, .sc (.int .i64 aR_0.Width)⟩, ⟨.imm, 0, 0, .sc (.int .i64 aR_0.Length)⟩]⟩), (5, some ⟨0, 0, false, true, false, true, [⟨.imm, 0, 0, .sc (.int .i64 aK_1.Board)⟩, ⟨.imm, 0, 0, .sc (.int .i64 aK_1.Wide)⟩, ⟨.imm, 0, 0, .sc (.int .i64 aK_1.Least)⟩, ⟨.imm, 0, 0, .sc (.int .i64 aK_1.Stagger)⟩]⟩), (9, some ⟨0, 0, false, false, false, false, [⟨.sh, 0, 0, .row 1 (List.map eI x27.1)⟩]⟩), (12, some ⟨0, 0, false, false, false, false, [⟨.sh, 0, 0, .row 1 (List.map eI x38.1)⟩]⟩)]) true) (by kernel_rfl) (congrArg (fun t_55_m3 : Bool => mk [(2, iv aStep_2), (3, iv aBudget_3), (4, .v false [.mp 4 0 0]), (5, .v false [.mp 5 0 0]), (9, .v false [.own 9 0 0]), (10, iv x27.2.1), (11, iv x27.2.2), (12, .v false [.own 12 0 0]), (55, bv t_55_m3)] [(4, some ⟨0, 0, false, true, false, true, [⟨.imm, 0, 0, .sc (.int .i64 aR_0.Width)⟩, ⟨.imm, 0, 0, .sc (.int .i64 aR_0.Length)⟩]⟩), (5, some ⟨0, 0, false, true, false, true, [⟨.imm, 0, 0, .sc (.int .i64 aK_1.Board)⟩, ⟨.imm, 0, 0, .sc (.int .i64 aK_1.Wide)⟩, ⟨.imm, 0, 0, .sc (.int .i64 aK_1.Least)⟩, ⟨.imm, 0, 0, .sc (.int .i64 aK_1.Stagger)⟩]⟩), (9, some ⟨0, 0, false, false, false, false, [⟨.sh, 0, 0, .row 1 (List.map eI x27.1)⟩]⟩), (12, some ⟨0, 0, false, false, false, false, [⟨.sh, 0, 0, .row 1 (List.map eI x38.1)⟩]⟩)]) (by first | rfl | simp [(byF Iff.rfl hc1)])))⟩
  · refine Unw.seq ?_
    by_cases hc3 : (¬ (x44 = true) ∨ (x38.2.1 ≠ x27.2.1 ∨ x38.2.2 ≠ x27.2.2))
    · rw [if_pos hc3] at h
      refine Go.condT rfl ((iOr (iNot Iff.rfl) (iOr iNe iNe)).2 hc3) ?_
      refine Go.seq ?_
      refine Go.r0 c6 rfl rfl (sq z6 (oAsI rfl rfl) <| nl) ?_
      refine Unw.seq ?_
      refine Go.ret (Unw.ret ?_)
      cases h
      exact Fin_ret (fin_of rfl rF6 rfl (by kernel_rfl))
    · rw [if_neg hc3] at h
      refine Go.condF rfl (byF (iOr (iNot Iff.rfl) (iOr iNe iNe)) hc3) ?_
      refine Go.skip ?_
      refine Unw.seq ?_
      refine Go.seq ?_
      refine Go.r0 c6 rfl rfl (sq z6 (oAsI rfl rfl) <| nl) ?_
      refine Unw.seq ?_
      refine Go.seq ?_
      obtain ⟨x58, hx58, h⟩ := bs h
      refine Go.r0 c6 rfl rfl (sq z6 (oMv rfl rfl) <| sq z6 (oMv rfl rfl) <| sq z6 (oCa (xs := [.v false [.own 12 0 0], .v false [.im 0 _]]) (vs := [(false, [.im 0 _])]) (v := .v false [.im 0 _]) (L_laws_markInt64S hx58) rfl rfl kF15_26_3 rfl (ppC rfl (ppC rfl pp0)) rfl rfl (pbO rfl rfl rfl rfl pb0) rfl rfl rfl) <| sq z6 (oAsI rfl rfl) <| nl) ?_
      refine Unw.seq ?_
      refine Go.seq ?_
      refine Go.r1 c6 rfl rfl (st1 := mk [(2, iv aStep_2), (3, iv aBudget_3), (4, .v false [.mp 4 0 0]), (5, .v false [.mp 5 0 0]), (9, .v false [.own 9 0 0]), (10, iv x27.2.1), (11, iv x27.2.2), (12, .v false [.own 12 0 0]), (15, iv x58.1)] [(4, some ⟨0, 0, false, true, false, true, [⟨.imm, 0, 0, .sc (.int .i64 aR_0.Width)⟩, ⟨.imm, 0, 0, .sc (.int .i64 aR_0.Length)⟩]⟩), (5, some ⟨0, 0, false, true, false, true, [⟨.imm, 0, 0, .sc (.int .i64 aK_1.Board)⟩, ⟨.imm, 0, 0, .sc (.int .i64 aK_1.Wide)⟩, ⟨.imm, 0, 0, .sc (.int .i64 aK_1.Least)⟩, ⟨.imm, 0, 0, .sc (.int .i64 aK_1.Stagger)⟩]⟩), (9, some ⟨0, 0, false, false, false, false, [⟨.sh, 0, 0, .row 1 (List.map eI x27.1)⟩]⟩), (12, some ⟨0, 0, false, false, false, false, [⟨.sh, 0, 0, .row 1 (List.map eI x58.2)⟩]⟩)]) (by kernel_rfl) (sq z6 (oAsI rfl rfl) <| nl) ?_
      refine Unw.seq ?_
      refine Go.seq ?_
      obtain ⟨x61, hx61, h⟩ := bs h
      refine Go.r0 c6 rfl rfl (sq z6 (oMv rfl rfl) <| sq z6 (oMv rfl rfl) <| sq z6 (oCa (xs := [.v false [.own 12 0 0], .v false [.im 0 _]]) (vs := [(false, [.im 0 _])]) (v := .v false [.im 0 _]) (L_laws_heldInt64S hx61) rfl rfl kF16_26_3 rfl (ppC rfl (ppC rfl pp0)) rfl rfl pb0 rfl rfl rfl) <| sq z6 (oAsI rfl rfl) <| nl) ?_
      refine Unw.seq ?_
      refine Go.seq ?_
      refine Go.seq ?_
      refine Go.r0 c6 rfl rfl (sq z6 (oMv rfl rfl) <| sq z6 (oBi rfl rfl rfl rfl) <| nl) ?_
      refine Unw.seq ?_
      by_cases hc4 : x61 < 0
      · rw [if_pos hc4] at h
        refine Go.condT rfl (iDec.2 hc4) ?_
        refine Go.seq ?_
        refine Go.r0 c6 rfl rfl (sq z6 (oAsI rfl rfl) <| nl) ?_
        refine Unw.seq ?_
        refine Go.ret (Unw.ret ?_)
        cases h
        exact Fin_ret (fin_of rfl rF6 rfl (by kernel_rfl))
      · rw [if_neg hc4] at h
        refine Go.condF rfl (byF iDec hc4) ?_
        refine Go.skip ?_
        refine Unw.seq ?_
        refine Go.seq ?_
        refine Go.seq ?_
        refine Go.r0 c6 rfl rfl (sq z6 (oMv rfl rfl) <| sq z6 (oMv rfl rfl) <| sq z6 (oBi rfl rfl rfl rfl) <| nl) ?_
        refine Unw.seq ?_
        by_cases hc5 : x61 ≠ x58.1
        · rw [if_pos hc5] at h
          refine Go.condT rfl (iNe.2 hc5) ?_
          refine Go.seq ?_
          refine Go.r0 c6 rfl rfl (sq z6 (oAsI rfl rfl) <| nl) ?_
          refine Unw.seq ?_
          refine Go.ret (Unw.ret ?_)
          cases h
          exact Fin_ret (fin_of rfl rF6 rfl (by kernel_rfl))
        · rw [if_neg hc5] at h
          refine Go.condF rfl (byF iNe hc5) ?_
          refine Go.skip ?_
          refine Unw.seq ?_
          refine Go.seq ?_
          obtain ⟨x69, hx69, h⟩ := bs h
          obtain ⟨x71, hx71, h⟩ := bs h
          obtain ⟨x74, hx74, h⟩ := bs h
          refine Go.dr c6 rfl rfl rfl rfl (mk [(9, .v false [.own 9 0 0]), (10, iv x27.2.1), (11, iv x27.2.2), (12, .v false [.own 12 0 0]), (15, iv x58.1), (17, .v false [.own 17 0 0]), (18, iv x74.2.1), (19, iv x74.2.2)] [(9, some ⟨0, 0, false, false, false, false, [⟨.sh, 0, 0, .row 1 (List.map eI x27.1)⟩]⟩), (12, some ⟨0, 0, false, false, false, false, [⟨.sh, 0, 0, .row 1 (List.map eI x58.2)⟩]⟩), (17, some ⟨0, 0, false, false, false, false, [⟨.sh, 0, 0, .row 1 (List.map eI x74.1)⟩]⟩)]) (sT rfl (dN z6 rfl (oLd (cs := [.im 0 _, .im 0 _]) rfl tF23 rfl rfl)) <| sT rfl (dN z6 rfl (oLd (cs := [.im 0 _, .im 0 _, .im 0 _, .im 0 _]) rfl tF25 rfl rfl)) <| sT rfl (dN z6 rfl (oMv rfl rfl)) <| sT rfl (dN z6 rfl (oMv rfl rfl)) <| sS (dN z6 rfl (oCa (xs := [.v true [.im 0 _, .im 0 _]]) (vs := [(true, [.im 0 _, .im 0 _])]) (v := .v true [.im 0 _, .im 0 _]) (L_laws_toRoom hx69) rfl rfl kF8_23 rfl (ppC rfl pp0) rfl rfl pb0 rfl rfl rfl)) (sS (dN z6 rfl (oCa (xs := [.v true [.im 0 _, .im 0 _, .im 0 _, .im 0 _]]) (vs := [(true, [.im 0 _, .im 0 _, .im 0 _, .im 0 _])]) (v := .v true [.im 0 _, .im 0 _, .im 0 _, .im 0 _]) (L_laws_toStock hx71) rfl rfl kF9_25 rfl (ppC rfl pp0) rfl rfl pb0 rfl rfl rfl)) (sS (dN z6 rfl (oCr (xs := [.v true [.im 0 _, .im 0 _], .v true [.im 0 _, .im 0 _, .im 0 _, .im 0 _], .v false [.im 0 _], .v false [.im 0 _]]) (vs := [(false, [.own 74 0 0]), (false, [.im 0 _]), (false, [.im 0 _])]) (v := .tup [(false, [.own 74 0 0]), (false, [.im 0 _]), (false, [.im 0 _])]) (c := ⟨.sh, 0, _⟩) (cs := []) (L_impl_BestFloor hx74) rfl rfl kF20_29_31_2_2 rfl (ppC rfl (ppC rfl (ppC rfl (ppC rfl pp0)))) rfl rfl pb0 rfl rfl rfl)) (sT rfl (dN z6 rfl (oMvT rfl rfl)) <| sT rfl (dN z6 rfl (oEx rfl rfl rfl)) <| sF (dN z6 rfl (oEx rfl rfl rfl)) (sF (dN z6 rfl (oEx rfl rfl rfl)) (sS (dN z6 rfl (oAsO rfl rfl rfl rfl rfl)) (sS (dN z6 rfl (oAsI rfl rfl)) (sS (dN z6 rfl (oAsI rfl rfl)) (sD (by kernel_rfl))))) (sS (dN z6 rfl (oAsO rfl rfl rfl rfl rfl)) (sF (dN z6 rfl (oEx rfl rfl rfl)) (sS (dN z6 rfl (oAsI rfl rfl)) (sS (dN z6 rfl (oAsI rfl rfl)) (sD (by kernel_rfl)))) (sS (dN z6 rfl (oAsI rfl rfl)) (sT rfl (dN z6 rfl (oEx rfl rfl rfl)) <| sS (dN z6 rfl (oAsI rfl rfl)) (sD (by kernel_rfl))))))) (sF (dN z6 rfl (oEx rfl rfl rfl)) (sF (dN z6 rfl (oEx rfl rfl rfl)) (sS (dN z6 rfl (oAsO rfl rfl rfl rfl rfl)) (sS (dN z6 rfl (oAsI rfl rfl)) (sS (dN z6 rfl (oAsI rfl rfl)) (sD (by kernel_rfl))))) (sS (dN z6 rfl (oAsO rfl rfl rfl rfl rfl)) (sT rfl (dN z6 rfl (oEx rfl rfl rfl)) <| sS (dN z6 rfl (oAsI rfl rfl)) (sS (dN z6 rfl (oAsI rfl rfl)) (sD (by kernel_rfl)))))) (sS (dN z6 rfl (oAsO rfl rfl rfl rfl rfl)) (sT rfl (dN z6 rfl (oEx rfl rfl rfl)) <| sF (dN z6 rfl (oEx rfl rfl rfl)) (sS (dN z6 rfl (oAsI rfl rfl)) (sS (dN z6 rfl (oAsI rfl rfl)) (sD (by kernel_rfl)))) (sS (dN z6 rfl (oAsI rfl rfl)) (sT rfl (dN z6 rfl (oEx rfl rfl rfl)) <| sS (dN z6 rfl (oAsI rfl rfl)) (sD (by kernel_rfl))))))))))) ?_
          refine Unw.seq ?_
          refine Go.seq ?_
          refine Go.seq ?_
          obtain ⟨x80, hx80, h⟩ := bs h
          refine Go.rX c6 rfl rfl rfl (mk [(12, .v false [.own 12 0 0]), (15, iv x58.1), (91, bv ((!x80) || ((x74.2.1 != x27.2.1) || (x74.2.2 != x27.2.2))))] [(12, some ⟨0, 0, false, false, false, false, [⟨.sh, 0, 0, .row 1 (List.map eI x58.2)⟩]⟩)]) ?_ ?_
          · by_cases hc6 : x80 = true
            · by_cases hc7 : x74.2.1 ≠ x27.2.1
              · exact ⟨_, sq z6 (oMv rfl rfl) <| sq z6 (oMv rfl rfl) <| sq z6 (oCa (xs := [.v false [.own 17 0 0], .v false [.own 9 0 0]]) (vs := [(false, [.im 0 _])]) (v := .v false [.im 0 _]) (L_laws_eqInt64S hx80) rfl rfl kF12_26_26 rfl (ppC rfl (ppC rfl pp0)) rfl rfl pb0 rfl rfl rfl) <| sq z6 (oUn rfl rfl rfl) <| sq z6 (oMv rfl rfl) <| sgT z6 rfl rfl (nF (Iff.rfl.2 hc6)) (oMv rfl rfl) <| sgT z6 rfl rfl (nF (Iff.rfl.2 hc6)) (oMv rfl rfl) <| sgT z6 rfl rfl (nF (Iff.rfl.2 hc6)) (oBi rfl rfl rfl rfl) <| sq z6 (oPkF rfl rfl (nF (Iff.rfl.2 hc6)) rfl) <| sq z6 (oMv rfl rfl) <| sgF rfl rfl (iNe.2 hc7) rfl <| sgF rfl rfl (iNe.2 hc7) rfl <| sgF rfl rfl (iNe.2 hc7) rfl <| sq z6 (oPkT rfl rfl (iNe.2 hc7) rfl) <| nl, (Eq.trans (b := (fun t_91_m14 : Bool => mk [(12, .v false [.own 12 0 0]), (15, iv x58.1), (91, bv t_91_m14)] [(12, some ⟨0, 0, false, false, false, false, [⟨.sh, 0, 0, .row 1 (List.map eI x58.2)⟩]⟩)]) true) (by kernel_rfl) (congrArg (fun t_91_m14 : Bool => mk [(12, .v false [.own 12 0 0]), (15, iv x58.1), (91, bv t_91_m14)] [(12, some ⟨0, 0, false, false, false, false, [⟨.sh, 0, 0, .row 1 (List.map eI x58.2)⟩]⟩)]) (by first | rfl | simp [(Iff.rfl.2 hc6), (iNe.2 hc7)])))⟩
              · exact ⟨_, sq z6 (oMv rfl rfl) <| sq z6 (oMv rfl rfl) <| sq z6 (oCa (xs := [.v false [.own 17 0 0], .v false [.own 9 0 0]]) (vs := [(false, [.im 0 _])]) (v := .v false [.im 0 _]) (L_laws_eqInt64S hx80) rfl rfl kF12_26_26 rfl (ppC rfl (ppC rfl pp0)) rfl rfl pb0 rfl rfl rfl) <| sq z6 (oUn rfl rfl rfl) <| sq z6 (oMv rfl rfl) <| sgT z6 rfl rfl (nF (Iff.rfl.2 hc6)) (oMv rfl rfl) <| sgT z6 rfl rfl (nF (Iff.rfl.2 hc6)) (oMv rfl rfl) <| sgT z6 rfl rfl (nF (Iff.rfl.2 hc6)) (oBi rfl rfl rfl rfl) <| sq z6 (oPkF rfl rfl (nF (Iff.rfl.2 hc6)) rfl) <| sq z6 (oMv rfl rfl) <| sgT z6 rfl rfl (byF iNe hc7) (oMv rfl rfl) <| sgT z6 rfl rfl (byF iNe hc7) (oMv rfl rfl) <| sgT z6 rfl rfl (byF iNe hc7) (oBi rfl rfl rfl rfl) <| sq z6 (oPkF rfl rfl (byF iNe hc7) rfl) <| nl, (Eq.trans (b := (fun t_91_m14 : Bool => mk [(12, .v false [.own 12 0 0]), (15, iv x58.1), (91, bv t_91_m14)] [(12, some ⟨0, 0, false, false, false, false, [⟨.sh, 0, 0, .row 1 (List.map eI x58.2)⟩]⟩)]) (x74.2.2 != x27.2.2)) (by kernel_rfl) (congrArg (fun t_91_m14 : Bool => mk [(12, .v false [.own 12 0 0]), (15, iv x58.1), (91, bv t_91_m14)] [(12, some ⟨0, 0, false, false, false, false, [⟨.sh, 0, 0, .row 1 (List.map eI x58.2)⟩]⟩)]) (by first | rfl | simp [(Iff.rfl.2 hc6), (byF iNe hc7)])))⟩
            · exact ⟨_, sq z6 (oMv rfl rfl) <| sq z6 (oMv rfl rfl) <| sq z6 (oCa (xs := [.v false [.own 17 0 0], .v false [.own 9 0 0]]) (vs := [(false, [.im 0 _])]) (v := .v false [.im 0 _]) (L_laws_eqInt64S hx80) rfl rfl kF12_26_26 rfl (ppC rfl (ppC rfl pp0)) rfl rfl pb0 rfl rfl rfl) <| sq z6 (oUn rfl rfl rfl) <| sq z6 (oMv rfl rfl) <| sgF rfl rfl (nT (byF Iff.rfl hc6)) rfl <| sgF rfl rfl (nT (byF Iff.rfl hc6)) rfl <| sgF rfl rfl (nT (byF Iff.rfl hc6)) rfl <| sq z6 (oPkT rfl rfl (nT (byF Iff.rfl hc6)) rfl) <| sq z6 (oMv rfl rfl) <| sgF rfl rfl rfl rfl <| sgF rfl rfl rfl rfl <| sgF rfl rfl rfl rfl <| sq z6 (oPkT rfl rfl rfl rfl) <| nl, (Eq.trans (b := (fun t_91_m14 : Bool => mk [(12, .v false [.own 12 0 0]), (15, iv x58.1), (91, bv t_91_m14)] [(12, some ⟨0, 0, false, false, false, false, [⟨.sh, 0, 0, .row 1 (List.map eI x58.2)⟩]⟩)]) true) (by kernel_rfl) (congrArg (fun t_91_m14 : Bool => mk [(12, .v false [.own 12 0 0]), (15, iv x58.1), (91, bv t_91_m14)] [(12, some ⟨0, 0, false, false, false, false, [⟨.sh, 0, 0, .row 1 (List.map eI x58.2)⟩]⟩)]) (by first | rfl | simp [(byF Iff.rfl hc6)])))⟩
          · refine Unw.seq ?_
            by_cases hc8 : (¬ (x80 = true) ∨ (x74.2.1 ≠ x27.2.1 ∨ x74.2.2 ≠ x27.2.2))
            · rw [if_pos hc8] at h
              refine Go.condT rfl ((iOr (iNot Iff.rfl) (iOr iNe iNe)).2 hc8) ?_
              refine Go.seq ?_
              refine Go.r0 c6 rfl rfl (sq z6 (oAsI rfl rfl) <| nl) ?_
              refine Unw.seq ?_
              refine Go.ret (Unw.ret ?_)
              cases h
              exact Fin_ret (fin_of rfl rF6 rfl (by kernel_rfl))
            · rw [if_neg hc8] at h
              refine Go.condF rfl (byF (iOr (iNot Iff.rfl) (iOr iNe iNe)) hc8) ?_
              refine Go.skip ?_
              refine Unw.seq ?_
              refine Go.seq ?_
              refine Go.r0 c6 rfl rfl (sq z6 (oAsI rfl rfl) <| nl) ?_
              refine Unw.seq ?_
              refine Go.seq ?_
              obtain ⟨x94, hx94, h⟩ := bs h
              refine Go.r0 c6 rfl rfl (sq z6 (oMv rfl rfl) <| sq z6 (oMv rfl rfl) <| sq z6 (oCa (xs := [.v false [.own 12 0 0], .v false [.im 0 _]]) (vs := [(false, [.im 0 _])]) (v := .v false [.im 0 _]) (L_laws_heldInt64S hx94) rfl rfl kF16_26_3 rfl (ppC rfl (ppC rfl pp0)) rfl rfl pb0 rfl rfl rfl) <| sq z6 (oAsI rfl rfl) <| nl) ?_
              refine Unw.seq ?_
              refine Go.seq ?_
              refine Go.seq ?_
              refine Go.r0 c6 rfl rfl (sq z6 (oMv rfl rfl) <| sq z6 (oBi rfl rfl rfl rfl) <| nl) ?_
              refine Unw.seq ?_
              by_cases hc9 : x94 < 0
              · rw [if_pos hc9] at h
                refine Go.condT rfl (iDec.2 hc9) ?_
                refine Go.seq ?_
                refine Go.r0 c6 rfl rfl (sq z6 (oAsI rfl rfl) <| nl) ?_
                refine Unw.seq ?_
                refine Go.ret (Unw.ret ?_)
                cases h
                exact Fin_ret (fin_of rfl rF6 rfl (by kernel_rfl))
              · rw [if_neg hc9] at h
                refine Go.condF rfl (byF iDec hc9) ?_
                refine Go.skip ?_
                refine Unw.seq ?_
                refine Go.seq ?_
                refine Go.seq ?_
                refine Go.r0 c6 rfl rfl (sq z6 (oMv rfl rfl) <| sq z6 (oMv rfl rfl) <| sq z6 (oBi rfl rfl rfl rfl) <| nl) ?_
                refine Unw.seq ?_
                by_cases hc10 : x94 ≠ x58.1
                · rw [if_pos hc10] at h
                  refine Go.condT rfl (iNe.2 hc10) ?_
                  refine Go.seq ?_
                  refine Go.r0 c6 rfl rfl (sq z6 (oAsI rfl rfl) <| nl) ?_
                  refine Unw.seq ?_
                  refine Go.ret (Unw.ret ?_)
                  cases h
                  exact Fin_ret (fin_of rfl rF6 rfl (by kernel_rfl))
                · rw [if_neg hc10] at h
                  refine Go.condF rfl (byF iNe hc10) ?_
                  refine Go.skip ?_
                  refine Unw.seq ?_
                  refine Go.seq ?_
                  refine Go.r0 c6 rfl rfl (sq z6 (oAsI rfl rfl) <| nl) ?_
                  refine Unw.seq ?_
                  refine Go.ret (Unw.ret ?_)
                  cases h
                  exact Fin_ret (fin_of rfl rF6 rfl (by kernel_rfl))
end
end Go.Proofs.Yteglmkbkjaeijab
