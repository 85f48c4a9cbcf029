/- The program's ValidRules returns what the reference's returns: for all rules, without a condition. -/
import Derived.Test.YtbokjhdhpmmpfaaHrules
import Derived.Test.YtbokjhdhpmmpfaaQ6
namespace Go.Proofs.Ytbokjhdhpmmpfaa.Pure
open Go.RowKit Go.Proofs.Ytbokjhdhpmmpfaa.Q Go.Proofs.YtbokjhdhpmmpfaaW.PrintWords
set_option linter.unusedVariables false
set_option linter.unusedSimpArgs false

theorem FnExactValidRules : laws_FnExactValidRules.Pure := by
  intro s n d l _ _ _ ⟨hm, _⟩
  apply Ev.rounds
  unfold laws_FnExactValidRules.f
  refine Ev.bind0 (szRules_eq s n d l 1048576 (by omega) (by omega) hm) ?_
  by_cases h : (1048576 : Int) < l.length
  · rw [if_pos h]
    exact Ev.ite_pos (by omega) (Ev.now _)
  · rw [if_neg h]
    refine Ev.ite_neg (by omega) ?_
    have ht := toRules_ev s n d l (by omega)
    have hl : l.length ≤ 4611686018427387904 := by omega
    refine Ev.bind ht (Ev.bind (specValidRules_ev s n d l hl) (Ev.bind ht (Ev.bind (implValidRules_ev s n d l hl) ?_)))
    exact Ev.ite_neg (by simp) (Ev.bind ht (Ev.bind (eqRules_same s n d l hl) (Ev.ite_pos rfl (Ev.now _))))
end Go.Proofs.Ytbokjhdhpmmpfaa.Pure
