/- The program's ValidGraph returns what the reference's returns: for all graphs, without a condition. -/
import Derived.Test.YtfhakhbmbnbneaaHcircle
import Derived.Test.YtfhakhbmbnbneaaQ7
namespace Go.Proofs.Ytfhakhbmbnbneaa.Pure
open Go.RowKit Go.Proofs.Ytfhakhbmbnbneaa.Q Go.Proofs.YtfhakhbmbnbneaaW.PrintWords
set_option linter.unusedVariables false
set_option linter.unusedSimpArgs false

theorem FnExactValidGraph : laws_FnExactValidGraph.Pure := by
  intro l r hl hr
  suffices h : Ev (fun k => laws_FnExactValidGraph.f k l r) true by
    obtain ⟨k, hk⟩ := h
    exact ⟨k, hk k (Nat.le_refl k)⟩
  unfold laws_FnExactValidGraph.f
  obtain ⟨t, ht, h2, h3, h4⟩ := szGraph_ev l r 1048576 (by omega) (by omega) hl.1 (fun x hx => (hl.2 x hx).2.2.1)
  refine Ev.bind ht ?_
  by_cases hneg : t < 0
  · exact Ev.ite_pos hneg (Ev.now _)
  · refine Ev.ite_neg hneg ?_
    obtain ⟨h5, h6⟩ := h4 (by omega)
    have tg := toGraph_ev l r (by omega) (fun x hx => by have := h6 x hx; omega)
    have hlen : (l.map toNd).length ≤ 1048576 := by rw [List.length_map]; omega
    have hkids : ∀ x ∈ l.map toNd, x.f2.length ≤ 1048576 := fun x hx => by
      obtain ⟨y, hy, rfl⟩ := List.mem_map.1 hx
      have := h6 y hy
      unfold toNd
      dsimp only
      omega
    have hs : Ev (fun k => spec_ValidGraph.f k (l.map toNd) r) (vGraph (l.map toNd) r) := by
      unfold spec_ValidGraph.f
      exact Ev.bind (spec_validGraph_ev _ _ (by omega) (fun x hx => by have := hkids x hx; omega)) (Ev.now _)
    have hi : Ev (fun k => impl_ValidGraph.f k (l.map toNd) r) (vGraph (l.map toNd) r) := impl_ValidGraph_ev _ _ (by omega)
    have he : Ev (fun k => laws_eqGraph.f k (l.map toNd) r (l.map toNd) r) true := eqGraph_same _ _ (by omega) (fun x hx => by have := hkids x hx; omega)
    refine Ev.bind tg (Ev.bind hs (Ev.bind tg (Ev.bind hi ?_)))
    exact Ev.ite_neg (by simp) (Ev.bind tg (Ev.bind he (Ev.ite_pos rfl (Ev.now _))))
end Go.Proofs.Ytfhakhbmbnbneaa.Pure
