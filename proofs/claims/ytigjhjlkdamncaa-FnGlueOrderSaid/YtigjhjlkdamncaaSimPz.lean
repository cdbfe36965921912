/- Plain words for arrays: an index that is told. Conditions: none. -/
import Derived.Test.YtigjhjlkdamncaaSimPw
namespace Go.Pw

/-- An index of an array with so many elements. -/
def ix (m : Nat) (n : Int) : Option Int := if 0 ≤ n ∧ n < (m : Int) then some n else none

theorem ix_iff {m : Nat} {n v : Int} : ix m n = some v ↔ v = n ∧ 0 ≤ n ∧ n < (m : Int) := by
  unfold ix
  by_cases h : 0 ≤ n ∧ n < (m : Int)
  · rw [if_pos h]
    exact ⟨fun e => ⟨(Option.some.inj e).symm, h⟩, fun e => by rw [e.1]⟩
  · rw [if_neg h]
    exact ⟨fun e => (by cases e), fun e => absurd e.2 h⟩

theorem ix0 {m : Nat} {n v : Int} (h : ix m n = some v) : 0 ≤ n := (ix_iff.1 h).2.1
theorem ixB {m : Nat} {n v : Int} (h : ix m n = some v) : Nat.blt n.toNat m = true := by
  have := ix_iff.1 h
  unfold Nat.blt
  exact Nat.ble_eq_true_of_le (by omega)

theorem ixL2 {n v : Int} (h : ix 2 n = some v) (h0 : (n == 0) = false) : n = 1 := by
  have := ix_iff.1 h
  have a0 : ¬ n = 0 := fun e => by rw [e] at h0; cases h0
  omega
theorem ixL3 {n v : Int} (h : ix 3 n = some v) (h0 : (n == 0) = false) (h1 : (n == 1) = false) : n = 2 := by
  have := ix_iff.1 h
  have a0 : ¬ n = 0 := fun e => by rw [e] at h0; cases h0
  have a1 : ¬ n = 1 := fun e => by rw [e] at h1; cases h1
  omega
theorem ixL4 {n v : Int} (h : ix 4 n = some v) (h0 : (n == 0) = false) (h1 : (n == 1) = false) (h2 : (n == 2) = false) : n = 3 := by
  have := ix_iff.1 h
  have a0 : ¬ n = 0 := fun e => by rw [e] at h0; cases h0
  have a1 : ¬ n = 1 := fun e => by rw [e] at h1; cases h1
  have a2 : ¬ n = 2 := fun e => by rw [e] at h2; cases h2
  omega

end Go.Pw
