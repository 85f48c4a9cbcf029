/- The program's SharedOf returns what the reference's returns: for all graphs, without a condition. -/
import Derived.Test.YtapaegcombfafaaHshared
import Derived.Test.YtapaegcombfafaaHmark
import Derived.Test.YtapaegcombfafaaQ24
import Derived.Test.YtapaegcombfafaaQ25
import Derived.Test.YtapaegcombfafaaQ5
namespace Go.Proofs.Ytapaegcombfafaa.Pure
open Go.RowKit Go.Proofs.Ytapaegcombfafaa.Q Go.Proofs.YtapaegcombfafaaW.PrintWords
set_option linter.unusedVariables false
set_option linter.unusedSimpArgs false

theorem both (g : List Nd) (r : Int) (hg : g.length ≤ 1048576) (hk : ∀ x ∈ g,x.f2.length ≤ 1048576) : ∃ q : List Int,Ev (fun k => spec_SharedOf.f k g r) q ∧ Ev (fun k => impl_SharedOf.f k g r) q ∧ q.length ≤ 1000000 := by
 unfold spec_SharedOf.f impl_SharedOf.f
 have hs := spec_validGraph_ev g r (by omega) (fun x hx => by have := hk x hx;omega)
 have hi := impl_ValidGraph_ev g r (by omega)
 cases hv : vGraph g r with
 | false =>
  rw [hv] at hs hi
  exact ⟨[],Ev.bind hs (Ev.ite_neg (by decide) (Ev.now _)),Ev.bind hi (Ev.ite_neg (by decide) (Ev.now _)),by simp⟩
 | true =>
  rw [hv] at hs hi
  obtain ⟨⟨p1,p2,p3,p4⟩,p5,p6,_⟩ := vGraph_parts hv
  obtain ⟨q,a1,a2,a3⟩ := shared_both g r p2 p5 p3 p4
  have hr : ((List.replicate g.length (0 : Int))).getD r.toNat 0 = 0 := by
   rw [getD_lt 0 (by rw [List.length_replicate];omega)]
   simp
  refine ⟨q,Ev.bind hs (Ev.ite_pos rfl a1),Ev.bind hi (Ev.ite_pos rfl (Ev.ite_pos (by omega) (Ev.ite_pos (by omega) (Ev.bind0 rfl (Ev.ite_pos p3 (Ev.ite_pos (by simp;omega) ?_)))))),by omega⟩
  rw [Int.toNat_natCast,rdInt _ p3,hr,show wrap64 (0 + 1) = 1 from by simp [wrap64]]
  exact a2

theorem FnExactSharedOf : laws_FnExactSharedOf.Pure := by
 intro l r hl hr
 apply Ev.rounds
 unfold laws_FnExactSharedOf.f
 obtain ⟨t,ht,h2,h3,h4⟩ := szGraph_ev l r 1048576 (by omega) (by omega) hl.1 (fun x hx => (hl.2 x hx).2.2.1)
 refine Ev.bind ht ?_
 by_cases hneg : t < 0
 ·exact Ev.ite_pos hneg (Ev.now _)
 ·refine Ev.ite_neg hneg ?_
  obtain ⟨h5,h6⟩ := h4 (by omega)
  have tg := toGraph_ev l r (by omega) (fun x hx => by have := h6 x hx;omega)
  have hlen : (l.map toNd).length ≤ 1048576 := by rw [List.length_map];omega
  have hkids : ∀ x ∈ l.map toNd,x.f2.length ≤ 1048576 := fun x hx => by
   obtain ⟨y,hy,rfl⟩ := List.mem_map.1 hx
   have := h6 y hy
   unfold toNd
   dsimp only
   omega
  generalize l.map toNd = g at tg hlen hkids
  obtain ⟨q,hs,hi,hq⟩ := both g r hlen hkids
  have he : Ev (fun k => laws_eqGraph.f k g r g r) true := eqGraph_same _ _ (by omega) (fun x hx => by have := hkids x hx;omega)
  have heq := eqIntS_same q (by omega)
  have hheld := heldIntS_ev q.length 1 (by omega) (by omega)
  have hend := endN_bound g 1 1048576 hkids
  have hend2 : (g.length : Int) * ((1048576 : Nat) + 2 : Int) ≤ 1048576 * 1048578 := by
   have : (g.length : Int) ≤ 1048576 := by omega
   exact Int.mul_le_mul_of_nonneg_right this (by omega)
  have hle := endN_le g 1
  have hmark : Ev (fun k => laws_markGraph.f k g r 1) (endN g 1,markedN g 1) := markNodeS_ev g 1 (by omega) (by omega) (by omega)
  refine Ev.bind tg (Ev.bind hs (Ev.bind tg (Ev.bind hi (Ev.bind heq (Ev.ite_pos rfl ?_)))))
  refine Ev.bind tg (Ev.bind he (Ev.ite_pos rfl (Ev.bind hmark (Ev.ite_neg (by dsimp only;omega) (Ev.bind heq (Ev.ite_pos rfl ?_))))))
  refine Ev.bind (markIntS_ev q 1 (by omega) (by omega)) (Ev.bind hheld (Ev.ite_neg (by omega) (Ev.ite_pos rfl ?_)))
  exact Ev.bind tg (Ev.bind hi (Ev.bind heq (Ev.ite_pos rfl (Ev.bind hheld (Ev.ite_neg (by omega) (Ev.ite_pos rfl (Ev.now _)))))))
end Go.Proofs.Ytapaegcombfafaa.Pure
