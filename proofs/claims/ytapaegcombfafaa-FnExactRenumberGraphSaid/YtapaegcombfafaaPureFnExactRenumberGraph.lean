/- The program's RenumberGraph returns what the reference's returns: for all graphs and all orders, without a condition. -/
import Derived.Test.YtapaegcombfafaaHrenum
import Derived.Test.YtapaegcombfafaaHmark
import Derived.Test.YtapaegcombfafaaQ30
import Derived.Test.YtapaegcombfafaaQ31
import Derived.Test.YtapaegcombfafaaQ7
namespace Go.Proofs.Ytapaegcombfafaa.Pure
open Go.RowKit Go.Proofs.Ytapaegcombfafaa.Q Go.Proofs.YtapaegcombfafaaW.PrintWords
set_option linter.unusedVariables false
set_option linter.unusedSimpArgs false

theorem FnExactRenumberGraph : laws_FnExactRenumberGraph.Pure := by
 intro l r m hl hr hm
 apply Ev.rounds
 unfold laws_FnExactRenumberGraph.f
 by_cases hbig : (m.length : Int) > 1048576
 ·exact Ev.ite_pos hbig (Ev.now _)
 refine Ev.ite_neg hbig ?_
 obtain ⟨t,ht,h2,h3,h4⟩ := szGraph_ev l r 1048576 (by omega) (by omega) hl.1 (fun x hx => (hl.2 x hx).2.2.1)
 refine Ev.bind ht ?_
 by_cases hneg : t < 0
 ·exact Ev.ite_pos hneg (Ev.now _)
 ·refine Ev.ite_neg hneg ?_
  obtain ⟨h5,h6⟩ := h4 (by omega)
  have tg := toGraph_ev l r (by omega) (fun x hx => by have := h6 x hx;omega)
  have tm := toIntS_ev m (by omega)
  have hlen : (l.map toNd).length ≤ 1048576 := by rw [List.length_map];omega
  have hkids : ∀ x ∈ l.map toNd,x.f2.length ≤ 1048576 := fun x hx => by
   obtain ⟨y,hy,rfl⟩ := List.mem_map.1 hx
   have := h6 y hy
   unfold toNd
   dsimp only
   omega
  generalize l.map toNd = g at tg hlen hkids
  obtain ⟨q,s,hs,hi,hq1,hq2⟩ := renum_both g r m hlen hkids (by omega)
  have he : Ev (fun k => laws_eqGraph.f k g r g r) true := eqGraph_same _ _ (by omega) (fun x hx => by have := hkids x hx;omega)
  have heq : Ev (fun k => laws_eqGraph.f k q s q s) true := eqGraph_same _ _ (by omega) (fun x hx => by have := hq2 x hx;omega)
  have hem := eqIntS_same m (by omega)
  have bnd : ∀ z : List Nd,z.length ≤ 1048576 → (∀ x ∈ z,x.f2.length ≤ 1048576) → 1 ≤ endN z 1 ∧ endN z 1 ≤ 2305843009213693952 := by
   intro z z1 z2
   have hend := endN_bound z 1 1048576 z2
   have hend2 : (z.length : Int) * ((1048576 : Nat) + 2 : Int) ≤ 1048576 * 1048578 := by
    have : (z.length : Int) ≤ 1048576 := by omega
    exact Int.mul_le_mul_of_nonneg_right this (by omega)
   have hle := endN_le z 1
   omega
  obtain ⟨b1,b2⟩ := bnd g hlen hkids
  obtain ⟨b3,b4⟩ := bnd q hq1 hq2
  have hmark : Ev (fun k => laws_markGraph.f k g r 1) (endN g 1,markedN g 1) := markNodeS_ev g 1 (by omega) (by omega) (by omega)
  have hmark1 := markIntS_ev m (endN g 1) (by omega) (by omega)
  have hmark2 : Ev (fun k => laws_markGraph.f k q s 1) (endN q 1,markedN q 1) := markNodeS_ev q 1 (by omega) (by omega) (by omega)
  have hheld := heldGraph_ev q s 1 (by omega) (by omega) (by omega)
  refine Ev.bind tg (Ev.bind tm (Ev.bind hs (Ev.bind tg (Ev.bind tm (Ev.bind hi (Ev.bind heq (Ev.ite_pos rfl ?_)))))))
  refine Ev.bind tg (Ev.bind he (Ev.ite_pos rfl (Ev.bind tm (Ev.bind hem (Ev.ite_pos rfl (Ev.bind hmark (Ev.bind hmark1 (Ev.ite_neg (by dsimp only;omega) (Ev.bind heq (Ev.ite_pos rfl ?_))))))))))
  refine Ev.bind hmark2 (Ev.bind hheld (Ev.ite_neg (by omega) (Ev.ite_pos rfl ?_)))
  exact Ev.bind tg (Ev.bind tm (Ev.bind hi (Ev.bind heq (Ev.ite_pos rfl (Ev.bind hheld (Ev.ite_neg (by omega) (Ev.ite_pos rfl (Ev.now _))))))))
end Go.Proofs.Ytapaegcombfafaa.Pure
