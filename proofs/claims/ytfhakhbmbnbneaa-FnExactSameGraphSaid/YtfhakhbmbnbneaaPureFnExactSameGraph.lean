/- The program's SameGraph returns what the reference's returns: for all arguments, without a condition. -/
import Derived.Test.YtfhakhbmbnbneaaHcodeof
import Derived.Test.YtfhakhbmbnbneaaHsame
import Derived.Test.YtfhakhbmbnbneaaQ11
import Derived.Test.YtfhakhbmbnbneaaQ27
import Derived.Test.YtfhakhbmbnbneaaQ74
namespace Go.Proofs.Ytfhakhbmbnbneaa.Pure
open Go.RowKit Go.Proofs.Ytfhakhbmbnbneaa.Q Go.Proofs.YtfhakhbmbnbneaaW.PrintWords
set_option linter.unusedVariables false
set_option linter.unusedSimpArgs false

theorem both (a : List Nd) (r : Int) (b : List Nd) (s : Int) (ha : a.length ≤ 1048576) (hak : ∀ x ∈ a, x.f2.length ≤ 1048576) (hb : b.length ≤ 1048576) (hbk : ∀ x ∈ b, x.f2.length ≤ 1048576) :
    ∃ q : Bool, Ev (fun k => spec_SameGraph.f k a r b s) q ∧ Ev (fun k => impl_SameGraph.f k a r b s) q := by
  unfold spec_SameGraph.f impl_SameGraph.f
  have hs1 := spec_validGraph_ev a r (by omega) (fun x hx => by have := hak x hx; omega)
  have hi1 := impl_ValidGraph_ev a r (by omega)
  have hs2 := spec_validGraph_ev b s (by omega) (fun x hx => by have := hbk x hx; omega)
  have hi2 := impl_ValidGraph_ev b s (by omega)
  cases hv : vGraph a r with
  | false =>
    rw [hv] at hs1 hi1
    exact ⟨false, Ev.bind hs1 (Ev.ite_neg (by decide) (Ev.now _)), Ev.bind hi1 (Ev.ite_neg (by decide) (Ev.now _))⟩
  | true =>
    rw [hv] at hs1 hi1
    cases hw : vGraph b s with
    | false =>
      rw [hw] at hs2 hi2
      exact ⟨false, Ev.bind hs1 (Ev.ite_pos rfl (Ev.bind hs2 (Ev.ite_neg (by decide) (Ev.now _)))), Ev.bind hi1 (Ev.ite_pos rfl (Ev.bind hi2 (Ev.ite_neg (by decide) (Ev.now _))))⟩
    | true =>
      rw [hw] at hs2 hi2
      obtain ⟨⟨p1, p2, p3, p4⟩, p5, p6, _⟩ := vGraph_parts hv
      obtain ⟨⟨u1, u2, u3, u4⟩, u5, u6, _⟩ := vGraph_parts hw
      obtain ⟨q1, c1, c2, c3⟩ := codeOf_both a r p2 p5 (leaf0_of p6) p3 p4
      obtain ⟨q2, d1, d2, d3⟩ := codeOf_both b s u2 u5 (leaf0_of u6) u3 u4
      have e1 : Ev (fun k => impl_CodeOf.f k a r) q1 := by
        unfold impl_CodeOf.f
        exact Ev.bind hi1 (Ev.ite_pos rfl (Ev.bind c2 (Ev.now _)))
      have e2 : Ev (fun k => impl_CodeOf.f k b s) q2 := by
        unfold impl_CodeOf.f
        exact Ev.bind hi2 (Ev.ite_pos rfl (Ev.bind d2 (Ev.now _)))
      exact ⟨decide (q1 = q2), Ev.bind hs1 (Ev.ite_pos rfl (Ev.bind hs2 (Ev.ite_pos rfl (Ev.bind c1 (Ev.bind d1 (Ev.bind (sameInts_ev q1 q2 (by omega)) (Ev.now _))))))), Ev.bind hi1 (Ev.ite_pos rfl (Ev.bind hi2 (Ev.ite_pos rfl (Ev.bind e1 (Ev.bind e2 (Ev.bind (equal_ev q1 q2 (by omega)) (Ev.now _)))))))⟩

theorem given (l : List LNd) (r a : Int) (h0 : 0 ≤ a) (ha : a ≤ 1048576) (hl : l.length ≤ maxLen) (hk : ∀ x ∈ l, x.f2.length ≤ maxLen) :
    ∃ t, Ev (fun k => laws_szGraph.f k l r a) t ∧ t ≤ a ∧ (0 ≤ t → ∃ g : List Nd, g.length ≤ 1048576 ∧ (∀ x ∈ g, x.f2.length ≤ 1048576) ∧ Ev (fun k => laws_toGraph.f k l r) (g, r) ∧ Ev (fun k => laws_eqGraph.f k g r g r) true) := by
  obtain ⟨t, ht, h2, h3, h4⟩ := szGraph_ev l r a h0 (by omega) hl hk
  refine ⟨t, ht, h2, fun h => ?_⟩
  obtain ⟨h5, h6⟩ := h4 h
  have hkids : ∀ x ∈ l.map toNd, x.f2.length ≤ 1048576 := fun x hx => by
    obtain ⟨y, hy, rfl⟩ := List.mem_map.1 hx
    have := h6 y hy
    unfold toNd
    dsimp only
    omega
  have hlen : (l.map toNd).length ≤ 1048576 := by rw [List.length_map]; omega
  exact ⟨l.map toNd, hlen, hkids, toGraph_ev l r (by omega) (fun x hx => by have := h6 x hx; omega), eqGraph_same _ _ (by omega) (fun x hx => by have := hkids x hx; omega)⟩

theorem FnExactSameGraph : laws_FnExactSameGraph.Pure := by
  intro l r m s hl hr hm hs
  apply Ev.rounds
  unfold laws_FnExactSameGraph.f
  obtain ⟨t, ht, h2, h3⟩ := given l r 1048576 (by omega) (by omega) hl.1 (fun x hx => (hl.2 x hx).2.2.1)
  refine Ev.bind ht ?_
  by_cases hneg : t < 0
  · exact Ev.ite_pos hneg (Ev.now _)
  · refine Ev.ite_neg hneg ?_
    obtain ⟨a, ha1, ha2, ha3, ha4⟩ := h3 (by omega)
    obtain ⟨u, hu, h4, h5⟩ := given m s t (by omega) (by omega) hm.1 (fun x hx => (hm.2 x hx).2.2.1)
    refine Ev.bind hu ?_
    by_cases hneg2 : u < 0
    · exact Ev.ite_pos hneg2 (Ev.now _)
    · refine Ev.ite_neg hneg2 ?_
      obtain ⟨b, hb1, hb2, hb3, hb4⟩ := h5 (by omega)
      obtain ⟨q, q1, q2⟩ := both a r b s ha1 ha2 hb1 hb2
      refine Ev.bind ha3 (Ev.bind hb3 (Ev.bind q1 (Ev.bind ha3 (Ev.bind hb3 (Ev.bind q2 ?_)))))
      exact Ev.ite_neg (by simp) (Ev.bind ha3 (Ev.bind ha4 (Ev.ite_pos rfl (Ev.bind hb3 (Ev.bind hb4 (Ev.ite_pos rfl (Ev.now _)))))))
end Go.Proofs.Ytfhakhbmbnbneaa.Pure
