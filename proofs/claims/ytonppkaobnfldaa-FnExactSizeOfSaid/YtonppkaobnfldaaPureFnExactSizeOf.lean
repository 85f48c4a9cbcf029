/- The program's SizeOf returns what the reference's returns: for every list of orders, without a condition. -/
import Derived.Test.YtonppkaobnfldaaHenc
import Derived.Test.YtonppkaobnfldaaQ30
namespace Go.Proofs.Ytonppkaobnfldaa.Pure
open Go.RowKit Go.Proofs.Ytonppkaobnfldaa.Q Go.Proofs.YtonppkaobnfldaaW.PrintWords
set_option linter.unusedVariables false
set_option linter.unusedSimpArgs false

theorem FnExactSizeOf : laws_FnExactSizeOf.Pure := by
  intro l ⟨hm, _⟩
  apply Ev.rounds
  unfold laws_FnExactSizeOf.f
  refine Ev.bind0 (szOpS_eq l 1048576 (by omega) (by omega) hm) ?_
  by_cases h : (1048576 : Int) < l.length
  · rw [if_pos h]
    exact Ev.ite_pos (by omega) (Ev.now _)
  · rw [if_neg h]
    refine Ev.ite_neg (by omega) ?_
    have ht := toOpS_ev l (by omega)
    have hl : (l.map toOp).length ≤ 4611686018427387904 := by simp; omega
    refine Ev.bind ht (Ev.bind (specSize_ev _ hl) (Ev.bind ht (Ev.bind (implSize_ev _ hl) ?_)))
    exact Ev.ite_pos rfl (Ev.bind ht (Ev.bind (eqOpS_same _ hl) (Ev.ite_pos rfl (Ev.now _))))
end Go.Proofs.Ytonppkaobnfldaa.Pure
