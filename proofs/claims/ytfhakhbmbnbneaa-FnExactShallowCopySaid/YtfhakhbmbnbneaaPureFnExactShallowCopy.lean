/- The program's ShallowCopy returns what the reference's returns: for all graphs, without a condition. -/
import Derived.Test.YtfhakhbmbnbneaaHshallow
import Derived.Test.YtfhakhbmbnbneaaHmark
import Derived.Test.YtfhakhbmbnbneaaQ14
import Derived.Test.YtfhakhbmbnbneaaQ45
import Derived.Test.YtfhakhbmbnbneaaQ46
namespace Go.Proofs.Ytfhakhbmbnbneaa.Pure
open Go.RowKit Go.Proofs.Ytfhakhbmbnbneaa.Q Go.Proofs.YtfhakhbmbnbneaaW.PrintWords
set_option linter.unusedVariables false
set_option linter.unusedSimpArgs false

theorem both (g : List Nd) (r : Int) (hg : g.length ≤ 1048576) (hk : ∀ x ∈ g,x.f2.length ≤ 1048576) : ∃ (q : List Nd) (s : Int),Ev (fun k => spec_ShallowCopy.f k g r) (q,s) ∧ Ev (fun k => impl_ShallowCopy.f k g r) (q,s) ∧ q.length ≤ 1048576 ∧ ∀ x ∈ q,x.f2.length ≤ 1048576 := by
 unfold spec_ShallowCopy.f impl_ShallowCopy.f
 have hs := spec_validGraph_ev g r (by omega) (fun x hx => by have := hk x hx;omega)
 have hi := impl_ValidGraph_ev g r (by omega)
 cases hv : vGraph g r with
 | false =>
  rw [hv] at hs hi
  exact ⟨[],0,Ev.bind hs (Ev.ite_neg (by decide) (shallow_no_s g r)),Ev.bind hi (Ev.ite_neg (by decide) (shallow_no_i g r)),by simp,by simp⟩
 | true =>
  rw [hv] at hs hi
  obtain ⟨⟨p1,p2,p3,p4⟩,p5,p6,_⟩ := vGraph_parts hv
  by_cases h12 : g.length = 12
  ·have e12 : ((g.length : Int) == 12) = true := by rw [beq_iff_eq];omega
   refine ⟨[],0,Ev.bind hs (Ev.ite_pos rfl ?_),Ev.bind hi (Ev.ite_pos rfl ?_),by simp,by simp⟩
   ·rw [e12]
    exact shallow_no_s g r
   ·rw [e12]
    exact shallow_no_i g r
  ·have e12 : ((g.length : Int) == 12) = false := by rw [beq_eq_false_iff_ne];omega
   refine ⟨g ++ [nd g r],g.length,Ev.bind hs (Ev.ite_pos rfl ?_),Ev.bind hi (Ev.ite_pos rfl ?_),by rw [List.length_append,List.length_singleton];omega,fun x hx => ?_⟩
   ·rw [e12]
    exact shallow_s g r p2 p5 p3 p4
   ·rw [e12]
    exact shallow_i g r p2 p5 p3 p4
   ·rcases List.mem_append.1 hx with hx | hx
    ·have := hk x hx
     omega
    ·rw [List.mem_singleton] at hx
     have := p5.few p3 p4
     rw [hx]
     omega

theorem FnExactShallowCopy : laws_FnExactShallowCopy.Pure := by
 intro l r hl hr
 apply Ev.rounds
 unfold laws_FnExactShallowCopy.f
 obtain ⟨t,ht,h2,h3,h4⟩ := szGraph_ev l r 1048576 (by omega) (by omega) hl.1 (fun x hx => (hl.2 x hx).2.2.1)
 refine Ev.bind ht ?_
 by_cases hneg : t < 0
 ·exact Ev.ite_pos hneg (Ev.now _)
 ·refine Ev.ite_neg hneg ?_
  obtain ⟨h5,h6⟩ := h4 (by omega)
  have tg := toGraph_ev l r (by omega) (fun x hx => by have := h6 x hx;omega)
  have hlen : (l.map toNd).length ≤ 1048576 := by rw [List.length_map];omega
  have hkids : ∀ x ∈ l.map toNd,x.f2.length ≤ 1048576 := fun x hx => by
   obtain ⟨y,hy,rfl⟩ := List.mem_map.1 hx
   have := h6 y hy
   unfold toNd
   dsimp only
   omega
  generalize l.map toNd = g at tg hlen hkids
  obtain ⟨q,s,hs,hi,hq1,hq2⟩ := both g r hlen hkids
  have he : Ev (fun k => laws_eqGraph.f k g r g r) true := eqGraph_same _ _ (by omega) (fun x hx => by have := hkids x hx;omega)
  have heq : Ev (fun k => laws_eqGraph.f k q s q s) true := eqGraph_same _ _ (by omega) (fun x hx => by have := hq2 x hx;omega)
  have bnd : ∀ z : List Nd,z.length ≤ 1048576 → (∀ x ∈ z,x.f2.length ≤ 1048576) → 1 ≤ endN z 1 ∧ endN z 1 ≤ 4611686018427387904 := by
   intro z z1 z2
   have hend := endN_bound z 1 1048576 z2
   have hend2 : (z.length : Int) * ((1048576 : Nat) + 2 : Int) ≤ 1048576 * 1048578 := by
    have : (z.length : Int) ≤ 1048576 := by omega
    exact Int.mul_le_mul_of_nonneg_right this (by omega)
   have hle := endN_le z 1
   omega
  obtain ⟨b1,b2⟩ := bnd g hlen hkids
  obtain ⟨b3,b4⟩ := bnd q hq1 hq2
  have hmark : Ev (fun k => laws_markGraph.f k g r 1) (endN g 1,markedN g 1) := markNodeS_ev g 1 (by omega) (by omega) (by omega)
  have hmark2 : Ev (fun k => laws_markGraph.f k q s 1) (endN q 1,markedN q 1) := markNodeS_ev q 1 (by omega) (by omega) (by omega)
  have hheld := heldGraph_ev q s 1 (by omega) (by omega) (by omega)
  refine Ev.bind tg (Ev.bind hs (Ev.bind tg (Ev.bind hi (Ev.bind heq (Ev.ite_pos rfl ?_)))))
  refine Ev.bind tg (Ev.bind he (Ev.ite_pos rfl (Ev.bind hmark (Ev.ite_neg (by dsimp only;omega) (Ev.bind heq (Ev.ite_pos rfl ?_))))))
  refine Ev.bind hmark2 (Ev.bind hheld (Ev.ite_neg (by omega) (Ev.ite_pos rfl ?_)))
  exact Ev.bind tg (Ev.bind hi (Ev.bind heq (Ev.ite_pos rfl (Ev.bind hheld (Ev.ite_neg (by omega) (Ev.ite_pos rfl (Ev.now _)))))))
end Go.Proofs.Ytfhakhbmbnbneaa.Pure
