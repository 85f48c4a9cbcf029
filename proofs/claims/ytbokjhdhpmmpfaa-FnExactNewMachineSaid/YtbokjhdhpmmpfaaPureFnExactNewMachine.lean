/- The program's NewMachine returns what the reference's returns: for all numbers, without a condition. -/
import Derived.Test.YtbokjhdhpmmpfaaHint
import Derived.Test.YtbokjhdhpmmpfaaQ41
import Derived.Test.YtbokjhdhpmmpfaaQ77
namespace Go.Proofs.Ytbokjhdhpmmpfaa.Pure
open Go.RowKit Go.Proofs.Ytbokjhdhpmmpfaa.Q Go.Proofs.YtbokjhdhpmmpfaaW.PrintWords
set_option linter.unusedVariables false
set_option linter.unusedSimpArgs false

set_option maxRecDepth 100000 in
theorem at0 : laws_FnExactNewMachine.f 100 0 = some true := by kernel_rfl
set_option maxRecDepth 100000 in
theorem at1 : laws_FnExactNewMachine.f 100 1 = some true := by kernel_rfl
theorem spec_other (k : Nat) (m : Int) (h : ¬ (0 ≤ m ∧ m ≤ 1)) : spec_NewMachine.f k m = some ([], [], [], false) := by
  unfold spec_NewMachine.f
  rw [inRange_eq, Option.bind_some, if_neg]
  intro z
  rw [Bool.and_eq_true, decide_eq_true_eq, decide_eq_true_eq] at z
  exact h z
theorem impl_other (k : Nat) (m : Int) (h : ¬ (0 ≤ m ∧ m ≤ 1)) : impl_NewMachine.f (k + 1) m = some ([], [], [], false) := by
  unfold impl_NewMachine.f
  by_cases h0 : m < 0
  · rw [if_pos h0]
    simp [impl_NewMachine.j0]
  · rw [if_neg h0, show decide (m > 1) = true from decide_eq_true (by omega)]
    simp [impl_NewMachine.j0]
set_option maxRecDepth 100000 in
theorem FnExactNewMachine : laws_FnExactNewMachine.Pure := by
  intro m _
  by_cases h : 0 ≤ m ∧ m ≤ 1
  · by_cases h0 : m = 0
    · subst h0
      exact ⟨100, at0⟩
    · obtain rfl : m = 1 := by omega
      exact ⟨100, at1⟩
  · refine ⟨99 + 1, ?_⟩
    unfold laws_FnExactNewMachine.f
    rw [spec_other _ m h, impl_other _ m h]
    kernel_rfl
end Go.Proofs.Ytbokjhdhpmmpfaa.Pure
