/- The program's BombGraph returns what the reference's returns: for all numbers, without a condition. -/
import Derived.Test.YtbokjhdhpmmpfaaHmark
import Derived.Test.YtbokjhdhpmmpfaaQ25
import Derived.Test.YtbokjhdhpmmpfaaQ28
namespace Go.Proofs.Ytbokjhdhpmmpfaa.Pure
open Go.RowKit Go.Proofs.Ytbokjhdhpmmpfaa.Q Go.Proofs.YtbokjhdhpmmpfaaW.PrintWords
set_option linter.unusedVariables false
set_option linter.unusedSimpArgs false

theorem loops (m : Int) (hm : m ≤ 11) : ∀ (d : Nat) (i : Nat) (g : List Nd) (r : Int), m - i = d → (i : Int) ≤ m → g.length ≤ i + 1 → (∀ x ∈ g, x.f2.length ≤ 2) →
    ∃ g' : List Nd, Ev (fun k => spec_BombGraph.l0 k m (i : Int) g r) (g', r) ∧ Ev (fun k => impl_BombGraph.l0 k m (i : Int) g r) (g', r) ∧ g'.length ≤ 12 ∧ ∀ x ∈ g', x.f2.length ≤ 2 := by
  intro d
  induction d with
  | zero =>
    intro i g r hd hi hg hx
    exact ⟨g, Ev.step (fun k => by unfold spec_BombGraph.l0; rw [if_neg (by omega)]) (Ev.now _), Ev.step (fun k => by unfold impl_BombGraph.l0; rw [if_neg (by omega)]) (Ev.now _), by omega, hx⟩
  | succ d ih =>
    intro i g r hd hi hg hx
    obtain ⟨g', h1, h2, h3⟩ := ih (i + 1) (g ++ [(⟨2, 0, [(i : Int), (i : Int)]⟩ : Nd)]) r (by omega) (by omega) (by rw [List.length_append, List.length_singleton]; omega) (fun x hx' => by
      rcases List.mem_append.1 hx' with q | q
      · exact hx x q
      · rw [List.mem_singleton.1 q]
        simp)
    refine ⟨g', ?_, ?_, h3⟩
    · refine Ev.step (fun k => by unfold spec_BombGraph.l0; rw [if_pos (by omega), if_pos (by omega), w64 (by omega)]) ?_
      exact h1
    · refine Ev.step (fun k => by unfold impl_BombGraph.l0; rw [if_pos (by omega), if_pos (by omega), w64 (by omega)]) ?_
      exact h2

theorem both (m : Int) : ∃ (g : List Nd) (r : Int), Ev (fun k => spec_BombGraph.f k m) (g, r) ∧ Ev (fun k => impl_BombGraph.f k m) (g, r) ∧ g.length ≤ 12 ∧ ∀ x ∈ g, x.f2.length ≤ 2 := by
  unfold spec_BombGraph.f impl_BombGraph.f
  have hbad : ∀ b : Bool, b = true → Ev (fun k => impl_BombGraph.j0 k m b) ([], 0) := fun b hb => by
    refine Ev.step (fun k => by simp only [impl_BombGraph.j0]; exact rfl) ?_
    exact Ev.ite_pos hb (Ev.now _)
  by_cases h : 0 ≤ m ∧ m ≤ 11
  · obtain ⟨g, h1, h2, h3, h4⟩ := loops m h.2 m.toNat 0 [(⟨0, 1, []⟩ : Nd)] m (by omega) (by omega) (by simp) (fun x hx => by rw [List.mem_singleton.1 hx]; simp)
    refine ⟨g, m, Ev.bind0 (inRange_eq _ _ _) (Ev.ite_pos (by rw [decide_eq_true h.1, decide_eq_true h.2]; rfl) h1), Ev.ite_neg (by omega) ?_, h3, h4⟩
    refine Ev.step (fun k => by simp only [impl_BombGraph.j0]; exact rfl) ?_
    exact Ev.ite_neg (by rw [decide_eq_false (by omega)]; decide) h2
  · refine ⟨[], 0, Ev.bind0 (inRange_eq _ _ _) (Ev.ite_neg (fun z => h ?_) (Ev.now _)), ?_, by simp, by simp⟩
    · rw [Bool.and_eq_true, decide_eq_true_eq, decide_eq_true_eq] at z
      exact z
    · by_cases h0 : m < 0
      · exact Ev.ite_pos h0 (hbad true rfl)
      · exact Ev.ite_neg h0 (hbad _ (decide_eq_true (by omega)))

theorem FnExactBombGraph : laws_FnExactBombGraph.Pure := by
  intro m _
  apply Ev.rounds
  unfold laws_FnExactBombGraph.f
  obtain ⟨g, r, hs, hi, hl, hk⟩ := both m
  have hend := endN_bound g 1 2 hk
  have he := eqGraph_same g r (by omega) (fun x hx => by have := hk x hx; omega)
  have hh := heldGraph_ev g r 1 (by omega) (by omega) (by omega)
  have hle := endN_le g 1
  refine Ev.bind hs (Ev.bind hi (Ev.bind he (Ev.ite_pos rfl ?_)))
  refine Ev.bind (markNodeS_ev g 1 (by omega) (by omega) (by omega)) (Ev.bind hh (Ev.ite_neg (by omega) (Ev.ite_pos rfl ?_)))
  exact Ev.bind hi (Ev.bind he (Ev.ite_pos rfl (Ev.bind hh (Ev.ite_neg (by omega) (Ev.ite_pos rfl (Ev.now _))))))
end Go.Proofs.Ytbokjhdhpmmpfaa.Pure
