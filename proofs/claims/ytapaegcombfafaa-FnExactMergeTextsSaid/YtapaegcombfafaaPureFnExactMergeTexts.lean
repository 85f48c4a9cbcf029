/- The program's MergeTexts returns what the reference's returns: for all graphs, without a condition. -/
import Derived.Test.YtapaegcombfafaaHmerge
import Derived.Test.YtapaegcombfafaaHmark
import Derived.Test.YtapaegcombfafaaQ33
import Derived.Test.YtapaegcombfafaaQ34
import Derived.Test.YtapaegcombfafaaQ9
namespace Go.Proofs.Ytapaegcombfafaa.Pure
open Go.RowKit Go.Proofs.Ytapaegcombfafaa.Q Go.Proofs.YtapaegcombfafaaW.PrintWords
set_option linter.unusedVariables false
set_option linter.unusedSimpArgs false

theorem both (g : List Nd) (r : Int) (hg : g.length ≤ 1048576) (hk : ∀ x ∈ g,x.f2.length ≤ 1048576) : ∃ (q : List Nd) (s : Int),Ev (fun k => spec_MergeTexts.f k g r) (q,s) ∧ Ev (fun k => impl_MergeTexts.f k g r) (q,s) ∧ q.length ≤ 1048576 ∧ ∀ x ∈ q,x.f2.length ≤ 1048576 := by
 unfold spec_MergeTexts.f impl_MergeTexts.f
 have hs := spec_validGraph_ev g r (by omega) (fun x hx => by have := hk x hx;omega)
 have hi := impl_ValidGraph_ev g r (by omega)
 cases hv : vGraph g r with
 | false =>
  rw [hv] at hs hi
  exact ⟨[],0,Ev.bind hs (Ev.ite_neg (by decide) (Ev.now _)),Ev.bind hi (Ev.ite_neg (by decide) (Ev.now _)),by simp,by simp⟩
 | true =>
  rw [hv] at hs hi
  obtain ⟨⟨p1,p2,p3,p4⟩,p5,p6,_⟩ := vGraph_parts hv
  refine ⟨g.map (mergedN g),((firstT g r.toNat : Nat) : Int),Ev.bind hs (Ev.ite_pos rfl (Ev.bind (copyGraph_ev g r (by omega) p5) (spec_merge_ev g r p2 p5 p3 p4))),Ev.bind hi (Ev.ite_pos rfl (impl_merge_ev g r p2 p5 p3 p4)),by rw [List.length_map];omega,fun x hx => ?_⟩
  obtain ⟨y,hy,rfl⟩ := List.mem_map.1 hx
  have := hk y hy
  simp only [mergedN,mappedN,List.length_map]
  omega

theorem FnExactMergeTexts : laws_FnExactMergeTexts.Pure := by
 intro l r hl hr
 apply Ev.rounds
 unfold laws_FnExactMergeTexts.f
 obtain ⟨t,ht,h2,h3,h4⟩ := szGraph_ev l r 1048576 (by omega) (by omega) hl.1 (fun x hx => (hl.2 x hx).2.2.1)
 refine Ev.bind ht ?_
 by_cases hneg : t < 0
 ·exact Ev.ite_pos hneg (Ev.now _)
 ·refine Ev.ite_neg hneg ?_
  obtain ⟨h5,h6⟩ := h4 (by omega)
  have tg := toGraph_ev l r (by omega) (fun x hx => by have := h6 x hx;omega)
  have hlen : (l.map toNd).length ≤ 1048576 := by rw [List.length_map];omega
  have hkids : ∀ x ∈ l.map toNd,x.f2.length ≤ 1048576 := fun x hx => by
   obtain ⟨y,hy,rfl⟩ := List.mem_map.1 hx
   have := h6 y hy
   unfold toNd
   dsimp only
   omega
  generalize l.map toNd = g at tg hlen hkids
  obtain ⟨q,s,hs,hi,hq1,hq2⟩ := both g r hlen hkids
  have he : Ev (fun k => laws_eqGraph.f k g r g r) true := eqGraph_same _ _ (by omega) (fun x hx => by have := hkids x hx;omega)
  have heq : Ev (fun k => laws_eqGraph.f k q s q s) true := eqGraph_same _ _ (by omega) (fun x hx => by have := hq2 x hx;omega)
  have bnd : ∀ z : List Nd,z.length ≤ 1048576 → (∀ x ∈ z,x.f2.length ≤ 1048576) → 1 ≤ endN z 1 ∧ endN z 1 ≤ 4611686018427387904 := by
   intro z z1 z2
   have hend := endN_bound z 1 1048576 z2
   have hend2 : (z.length : Int) * ((1048576 : Nat) + 2 : Int) ≤ 1048576 * 1048578 := by
    have : (z.length : Int) ≤ 1048576 := by omega
    exact Int.mul_le_mul_of_nonneg_right this (by omega)
   have hle := endN_le z 1
   omega
  obtain ⟨b1,b2⟩ := bnd g hlen hkids
  obtain ⟨b3,b4⟩ := bnd q hq1 hq2
  have hmark : Ev (fun k => laws_markGraph.f k g r 1) (endN g 1,markedN g 1) := markNodeS_ev g 1 (by omega) (by omega) (by omega)
  have hmark2 : Ev (fun k => laws_markGraph.f k q s 1) (endN q 1,markedN q 1) := markNodeS_ev q 1 (by omega) (by omega) (by omega)
  have hheld := heldGraph_ev q s 1 (by omega) (by omega) (by omega)
  refine Ev.bind tg (Ev.bind hs (Ev.bind tg (Ev.bind hi (Ev.bind heq (Ev.ite_pos rfl ?_)))))
  refine Ev.bind tg (Ev.bind he (Ev.ite_pos rfl (Ev.bind hmark (Ev.ite_neg (by dsimp only;omega) (Ev.bind heq (Ev.ite_pos rfl ?_))))))
  refine Ev.bind hmark2 (Ev.bind hheld (Ev.ite_neg (by omega) (Ev.ite_pos rfl ?_)))
  exact Ev.bind tg (Ev.bind hi (Ev.bind heq (Ev.ite_pos rfl (Ev.bind hheld (Ev.ite_neg (by omega) (Ev.ite_pos rfl (Ev.now _)))))))
end Go.Proofs.Ytapaegcombfafaa.Pure
