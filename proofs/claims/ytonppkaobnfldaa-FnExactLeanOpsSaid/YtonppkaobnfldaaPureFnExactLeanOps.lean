/- The program's LeanOps returns what the reference's returns: for every list of orders, without a condition. -/
import Derived.Test.YtonppkaobnfldaaHlean
import Derived.Test.YtonppkaobnfldaaQ14
namespace Go.Proofs.Ytonppkaobnfldaa.Pure
open Go.RowKit Go.Proofs.Ytonppkaobnfldaa.Q Go.Proofs.YtonppkaobnfldaaW.PrintWords
set_option linter.unusedVariables false
set_option linter.unusedSimpArgs false

theorem FnExactLeanOps : laws_FnExactLeanOps.Pure := by
 intro l ⟨hm,_⟩
 apply Ev.rounds
 unfold laws_FnExactLeanOps.f
 refine Ev.bind0 (szOpS_eq l 1048576 (by omega) (by omega) hm) ?_
 by_cases h : (1048576 : Int) < l.length
 ·rw [if_pos h]
  exact Ev.ite_pos (by omega) (Ev.now _)
 ·rw [if_neg h]
  refine Ev.ite_neg (by omega) ?_
  have ht := toOpS_ev l (by omega)
  have hl : (l.map toOp).length ≤ 4611686018427387904 := by simp;omega
  have hlm : (l.map toOp).length ≤ 1048576 := by simp;omega
  obtain ⟨r,hs,hi,hb⟩ := leanOps_both (l.map toOp) hlm
  have heq := eqOpS_same r (by omega)
  have hheld := heldOpS_ev r.length 1 (by omega) (by omega)
  refine Ev.bind ht (Ev.bind hs (Ev.bind ht (Ev.bind hi (Ev.bind heq (Ev.ite_pos rfl ?_)))))
  refine Ev.bind ht (Ev.bind (eqOpS_same _ hl) (Ev.ite_pos rfl ?_))
  refine Ev.bind (markOpS_ev _ 1 (by omega) (by omega)) (Ev.ite_neg (by omega) (Ev.bind heq ?_))
  refine Ev.step (fun k => by simp only [laws_FnExactLeanOps.j0];exact rfl) ?_
  refine Ev.ite_neg (by decide) (Ev.bind (markOpS_ev r 1 (by omega) (by omega)) (Ev.bind hheld (Ev.ite_neg (by omega) (Ev.ite_pos rfl ?_))))
  exact Ev.bind ht (Ev.bind hi (Ev.bind heq (Ev.ite_pos rfl (Ev.bind hheld (Ev.ite_neg (by omega) (Ev.ite_pos rfl (Ev.now _)))))))
end Go.Proofs.Ytonppkaobnfldaa.Pure
