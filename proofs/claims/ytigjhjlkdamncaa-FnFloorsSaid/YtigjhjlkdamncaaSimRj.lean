/- A printed configuration is a good one. Conditions: none. -/
import Derived.Test.YtigjhjlkdamncaaSimRi
import Derived.Test.YtigjhjlkdamncaaSimPx
namespace Go.Sim
open Go.Pw
set_option linter.unusedSimpArgs false
set_option linter.unusedVariables false

theorem wf64 {n : Int} (h : (Lit.int .i64 n).wf = true) : -9223372036854775808 ≤ n ∧ n ≤ 9223372036854775807 := by
  have e1 : IntKind.i64.max = 9223372036854775807 := by decide
  have e2 : IntKind.i64.min = -9223372036854775808 := by decide
  simp [Lit.wf] at h
  omega

/-- What is checked of one function. -/
def okF (F : FCfg) (fn : Func) : Bool := !(fn.name == "runtime.NumGoroutine") && (match fn.body with | some c => codeGood F c | none => true)

theorem look_mem {j : Nat} : ∀ {l : List (Nat × Bool)}, look false l j = true → (j, true) ∈ l
  | [], h => by cases h
  | (k, v) :: l, h => by
    simp only [look] at h
    cases hb : j.beq k with
    | true =>
      rw [hb] at h
      have : j = k := Nat.eq_of_beq_eq_true hb
      simp only [cond_true] at h
      subst this h
      exact List.mem_cons_self ..
    | false =>
      rw [hb] at h
      exact List.mem_cons_of_mem _ (look_mem h)

theorem cfgOK_of {P : Program} {ons : List (Nat × Bool)} {fcs : List (Nat × FCfg)} (hmix : P.follows .mixedOrders = true)
    (h : ∀ p ∈ ons, ∃ fn, P.funcs[p.1]? = some fn ∧ okF (look ⟨[], [], [], [], [], []⟩ fcs p.1) fn = true) : CfgOK P (mkCfg ons fcs []) where
  mix := hmix
  code := by
    intro f fn c hon hf hb
    obtain ⟨fn', h1, h2⟩ := h _ (look_mem hon)
    have h1 : P.funcs[f]? = some fn' := h1
    rw [hf] at h1; cases h1
    simp only [okF, hb, Bool.and_eq_true] at h2
    exact h2.2
  name := by
    intro f fn hon hf
    obtain ⟨fn', h1, h2⟩ := h _ (look_mem hon)
    have h1 : P.funcs[f]? = some fn' := h1
    rw [hf] at h1; cases h1
    simp only [okF, Bool.and_eq_true] at h2
    simpa using h2.1
  ext := by
    intro f g hg
    simp only [mkCfg, look] at hg
    cases hg

end Go.Sim
