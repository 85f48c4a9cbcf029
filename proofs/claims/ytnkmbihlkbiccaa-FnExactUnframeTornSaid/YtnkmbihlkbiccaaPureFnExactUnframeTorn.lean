/- The program's UnframeTorn returns what the reference's returns: for every list of numbers, without a condition. -/
import Derived.Test.YtnkmbihlkbiccaaHframe
import Derived.Test.YtnkmbihlkbiccaaQ7
namespace Go.Proofs.Ytnkmbihlkbiccaa.Pure
open Go.RowKit Go.Proofs.Ytnkmbihlkbiccaa.Q Go.Proofs.YtnkmbihlkbiccaaW.PrintWords
set_option linter.unusedVariables false
set_option linter.unusedSimpArgs false

theorem FnExactUnframeTorn : laws_FnExactUnframeTorn.Pure := by
  intro l hm _ _
  apply Ev.rounds
  unfold laws_FnExactUnframeTorn.f
  by_cases h : (l.length : Int) > 1048576
  · exact Ev.ite_pos h (Ev.now _)
  · refine Ev.ite_neg h ?_
    have ht := toIntS_ev l (by omega)
    obtain ⟨r, n, hs, hi, hl⟩ := torn_both l (by omega)
    have heq := eqIntS_same r (by omega)
    have hne : (n != n) = false := by simp
    have hheld := heldIntS_ev r.length 1 (by omega) (by omega)
    refine Ev.bind ht (Ev.bind hs (Ev.bind ht (Ev.bind hi (Ev.bind heq (Ev.ite_pos rfl ?_)))))
    dsimp only
    rw [hne]
    refine Ev.step (fun k => by simp only [laws_FnExactUnframeTorn.j0]; exact rfl) ?_
    refine Ev.ite_neg (by decide) (Ev.bind ht (Ev.bind (eqIntS_same l (by omega)) (Ev.ite_pos rfl (Ev.bind (markIntS_ev l 1 (by omega) (by omega)) (Ev.ite_neg (by omega) (Ev.bind heq (Ev.ite_pos rfl ?_)))))))
    rw [hne]
    refine Ev.step (fun k => by simp only [laws_FnExactUnframeTorn.j1]; exact rfl) ?_
    refine Ev.ite_neg (by decide) (Ev.bind (markIntS_ev r 1 (by omega) (by omega)) (Ev.bind hheld (Ev.ite_neg (by omega) (Ev.ite_pos rfl (Ev.bind ht (Ev.bind hi (Ev.bind heq (Ev.ite_pos rfl ?_))))))))
    dsimp only
    rw [hne]
    refine Ev.step (fun k => by simp only [laws_FnExactUnframeTorn.j2]; exact rfl) ?_
    exact Ev.ite_neg (by decide) (Ev.bind hheld (Ev.ite_neg (by omega) (Ev.ite_pos rfl (Ev.now _))))
end Go.Proofs.Ytnkmbihlkbiccaa.Pure
