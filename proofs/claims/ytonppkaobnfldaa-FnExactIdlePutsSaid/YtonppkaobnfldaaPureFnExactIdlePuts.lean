/- The program's IdlePuts returns what the reference's returns: for every list of orders, without a condition. -/
import Derived.Test.YtonppkaobnfldaaHidle
import Derived.Test.YtonppkaobnfldaaQ42
namespace Go.Proofs.Ytonppkaobnfldaa.Pure
open Go.RowKit Go.Proofs.Ytonppkaobnfldaa.Q Go.Proofs.YtonppkaobnfldaaW.PrintWords
set_option linter.unusedVariables false
set_option linter.unusedSimpArgs false

theorem FnExactIdlePuts : laws_FnExactIdlePuts.Pure := by
  intro l ⟨hm, _⟩
  apply Ev.rounds
  unfold laws_FnExactIdlePuts.f
  refine Ev.bind0 (szOpS_eq l 1048576 (by omega) (by omega) hm) ?_
  by_cases h : (1048576 : Int) < l.length
  · rw [if_pos h]
    exact Ev.ite_pos (by omega) (Ev.now _)
  · rw [if_neg h]
    refine Ev.ite_neg (by omega) ?_
    have ht := toOpS_ev l (by omega)
    have hl : (l.map toOp).length ≤ 4611686018427387904 := by simp; omega
    have hlm : (l.map toOp).length ≤ 1048576 := by simp; omega
    obtain ⟨r, hr⟩ : ∃ r : List Int, r = (if vOps (l.map toOp) then idles (l.map toOp) (l.map toOp).length else []) := ⟨_, rfl⟩
    have hb : r.length ≤ 300 := by
      rw [hr]
      exact implIdlePuts_ev_len (l.map toOp)
    have hs : Ev (fun k => spec_IdlePuts.f k (l.map toOp)) r := by rw [hr]; exact specIdlePuts_ev _ hl
    have hi : Ev (fun k => impl_IdlePuts.f k (l.map toOp)) r := by rw [hr]; exact implIdlePuts_ev _ hl
    have heq := eqIntS_same r (by omega)
    have hheld := heldIntS_ev r.length 1 (by omega) (by omega)
    refine Ev.bind ht (Ev.bind hs (Ev.bind ht (Ev.bind hi (Ev.bind heq (Ev.ite_pos rfl ?_)))))
    refine Ev.bind ht (Ev.bind (eqOpS_same _ hl) (Ev.ite_pos rfl ?_))
    refine Ev.bind (markOpS_ev _ 1 (by omega) (by omega)) (Ev.ite_neg (by omega) (Ev.bind heq ?_))
    refine Ev.step (fun k => by simp only [laws_FnExactIdlePuts.j0]; exact rfl) ?_
    refine Ev.ite_neg (by decide) (Ev.bind (markIntS_ev r 1 (by omega) (by omega)) (Ev.bind hheld (Ev.ite_neg (by omega) (Ev.ite_pos rfl ?_))))
    exact Ev.bind ht (Ev.bind hi (Ev.bind heq (Ev.ite_pos rfl (Ev.bind hheld (Ev.ite_neg (by omega) (Ev.ite_pos rfl (Ev.now _)))))))
end Go.Proofs.Ytonppkaobnfldaa.Pure
