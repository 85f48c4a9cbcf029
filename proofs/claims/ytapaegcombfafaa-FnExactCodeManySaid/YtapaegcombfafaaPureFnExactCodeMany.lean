/- The program's CodeMany returns what the reference's returns: for all graphs and all rows of roots, without a condition. -/
import Derived.Test.YtapaegcombfafaaHmany
import Derived.Test.YtapaegcombfafaaHmark
import Derived.Test.YtapaegcombfafaaQ12
import Derived.Test.YtapaegcombfafaaQ4
import Derived.Test.YtapaegcombfafaaQ44
namespace Go.Proofs.Ytapaegcombfafaa.Pure
open Go.RowKit Go.Proofs.Ytapaegcombfafaa.Q Go.Proofs.YtapaegcombfafaaW.PrintWords
set_option linter.unusedVariables false
set_option linter.unusedSimpArgs false

theorem FnExactCodeMany : laws_FnExactCodeMany.Pure := by
 intro l r m hl hr hm
 apply Ev.rounds
 unfold laws_FnExactCodeMany.f
 by_cases hbig : (m.length : Int) > 1048576
 ·exact Ev.ite_pos hbig (Ev.now _)
 refine Ev.ite_neg hbig ?_
 obtain ⟨t,ht,h2,h3,h4⟩ := szGraph_ev l r 1048576 (by omega) (by omega) hl.1 (fun x hx => (hl.2 x hx).2.2.1)
 refine Ev.bind ht ?_
 by_cases hneg : t < 0
 ·exact Ev.ite_pos hneg (Ev.now _)
 ·refine Ev.ite_neg hneg ?_
  obtain ⟨h5,h6⟩ := h4 (by omega)
  have tg := toGraph_ev l r (by omega) (fun x hx => by have := h6 x hx;omega)
  have tm := toIntS_ev m (by omega)
  have hlen : (l.map toNd).length ≤ 1048576 := by rw [List.length_map];omega
  have hkids : ∀ x ∈ l.map toNd,x.f2.length ≤ 1048576 := fun x hx => by
   obtain ⟨y,hy,rfl⟩ := List.mem_map.1 hx
   have := h6 y hy
   unfold toNd
   dsimp only
   omega
  generalize l.map toNd = g at tg hlen hkids
  obtain ⟨q,hs,hi,hq⟩ := codeMany_both g r m hlen hkids (by omega)
  have he : Ev (fun k => laws_eqGraph.f k g r g r) true := eqGraph_same _ _ (by omega) (fun x hx => by have := hkids x hx;omega)
  have hem := eqIntS_same m (by omega)
  have heq := eqIntS_same q (by omega)
  have hheld := heldIntS_ev q.length 1 (by omega) (by omega)
  have hend := endN_bound g 1 1048576 hkids
  have hend2 : (g.length : Int) * ((1048576 : Nat) + 2 : Int) ≤ 1048576 * 1048578 := by
   have : (g.length : Int) ≤ 1048576 := by omega
   exact Int.mul_le_mul_of_nonneg_right this (by omega)
  have hle := endN_le g 1
  have hmark : Ev (fun k => laws_markGraph.f k g r 1) (endN g 1,markedN g 1) := markNodeS_ev g 1 (by omega) (by omega) (by omega)
  have hmark2 := markIntS_ev m (endN g 1) (by omega) (by omega)
  refine Ev.bind tg (Ev.bind tm (Ev.bind hs (Ev.bind tg (Ev.bind tm (Ev.bind hi (Ev.bind heq (Ev.ite_pos rfl ?_)))))))
  refine Ev.bind tg (Ev.bind he (Ev.ite_pos rfl (Ev.bind tm (Ev.bind hem (Ev.ite_pos rfl (Ev.bind hmark (Ev.bind hmark2 (Ev.ite_neg (by dsimp only;omega) (Ev.bind heq (Ev.ite_pos rfl ?_))))))))))
  refine Ev.bind (markIntS_ev q 1 (by omega) (by omega)) (Ev.bind hheld (Ev.ite_neg (by omega) (Ev.ite_pos rfl ?_)))
  exact Ev.bind tg (Ev.bind tm (Ev.bind hi (Ev.bind heq (Ev.ite_pos rfl (Ev.bind hheld (Ev.ite_neg (by omega) (Ev.ite_pos rfl (Ev.now _))))))))
end Go.Proofs.Ytapaegcombfafaa.Pure
