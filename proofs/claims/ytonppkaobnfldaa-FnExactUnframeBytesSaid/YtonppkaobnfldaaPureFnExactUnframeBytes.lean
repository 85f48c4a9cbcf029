/- The program's UnframeBytes returns what the reference's returns: for every list of numbers, without a condition. -/
import Derived.Test.YtonppkaobnfldaaHframe
import Derived.Test.YtonppkaobnfldaaQ4
namespace Go.Proofs.Ytonppkaobnfldaa.Pure
open Go.RowKit Go.Proofs.Ytonppkaobnfldaa.Q Go.Proofs.YtonppkaobnfldaaW.PrintWords
set_option linter.unusedVariables false
set_option linter.unusedSimpArgs false

theorem FnExactUnframeBytes : laws_FnExactUnframeBytes.Pure := by
  intro l hm _ _
  apply Ev.rounds
  unfold laws_FnExactUnframeBytes.f
  by_cases h : (l.length : Int) > 1048576
  · exact Ev.ite_pos h (Ev.now _)
  · refine Ev.ite_neg h ?_
    have ht := toIntS_ev l (by omega)
    obtain ⟨r, n, hs, hi, hl⟩ := unframeBytes_both l (by omega)
    have heq := eqIntS_same r (by omega)
    have hne : (n != n) = false := by simp
    have hheld := heldIntS_ev r.length 1 (by omega) (by omega)
    refine Ev.bind ht (Ev.bind hs (Ev.bind ht (Ev.bind hi (Ev.bind heq (Ev.ite_pos rfl ?_)))))
    dsimp only
    rw [hne]
    refine Ev.step (fun k => by simp only [laws_FnExactUnframeBytes.j0]; exact rfl) ?_
    refine Ev.ite_neg (by decide) (Ev.bind ht (Ev.bind (eqIntS_same l (by omega)) (Ev.ite_pos rfl (Ev.bind (markIntS_ev l 1 (by omega) (by omega)) (Ev.ite_neg (by omega) (Ev.bind heq (Ev.ite_pos rfl ?_)))))))
    rw [hne]
    refine Ev.step (fun k => by simp only [laws_FnExactUnframeBytes.j1]; exact rfl) ?_
    refine Ev.ite_neg (by decide) (Ev.bind (markIntS_ev r 1 (by omega) (by omega)) (Ev.bind hheld (Ev.ite_neg (by omega) (Ev.ite_pos rfl (Ev.bind ht (Ev.bind hi (Ev.bind heq (Ev.ite_pos rfl ?_))))))))
    dsimp only
    rw [hne]
    refine Ev.step (fun k => by simp only [laws_FnExactUnframeBytes.j2]; exact rfl) ?_
    exact Ev.ite_neg (by decide) (Ev.bind hheld (Ev.ite_neg (by omega) (Ev.ite_pos rfl (Ev.now _))))
end Go.Proofs.Ytonppkaobnfldaa.Pure
