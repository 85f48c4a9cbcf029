/- Validity of a drawn graph is told alike by both, and it does not know which node of the graph is its root: for every code of the draws, without a condition. -/
import Derived.Test.YtfhakhbmbnbneaaHdrawg
import Derived.Test.YtfhakhbmbnbneaaQ28
import Derived.Test.YtfhakhbmbnbneaaQ30
namespace Go.Proofs.Ytfhakhbmbnbneaa.Pure
open Go.RowKit Go.Proofs.Ytfhakhbmbnbneaa.Q Go.Proofs.YtfhakhbmbnbneaaW.PrintWords
set_option linter.unusedVariables false
set_option linter.unusedSimpArgs false

theorem vGraph_root {g : List Nd} {r : Int} (h : vGraph g r = true) (i : Int) (h0 : 0 ≤ i) (h1 : i < (g.length : Int)) : vGraph g i = true := by
 unfold vGraph at h ⊢
 rw [Bool.and_eq_true] at h ⊢
 refine ⟨?_,h.2⟩
 have h2 := h.1
 rw [Bool.and_eq_true] at h2 ⊢
 exact ⟨h2.1,by simp [h0,h1]⟩

theorem FnValidGraph : laws_FnValidGraph.Pure := by
 intro l hm _ hw
 apply Ev.rounds
 unfold laws_FnValidGraph.f
 by_cases h : (l.length : Int) > 1048576
 ·exact Ev.ite_pos h (Ev.now _)
 refine Ev.ite_neg h ?_
 obtain ⟨c,hc,hcode⟩ := newReader_ev l hw
 obtain ⟨g,r,q,hg,s1,s2,s3⟩ := anyGraph_ev c hcode 0 (by omega) (by omega)
 have hd : Ev (fun k => spec_DrawValidGraph.f k l) (g,r) := by
  unfold spec_DrawValidGraph.f
  exact Ev.bind0 hc (Ev.bind hg (Ev.now _))
 have hi := impl_ValidGraph_ev g r (by omega)
 have hv : Ev (fun k => spec_ValidGraph.f k g r) (vGraph g r) := by
  unfold spec_ValidGraph.f
  exact Ev.bind (spec_validGraph_ev g r (by omega) (fun x hx => by have := s3 x hx;omega)) (Ev.now _)
 refine Ev.bind hd (Ev.bind hi (Ev.bind hv (Ev.ite_neg (by simp) ?_)))
 cases hb : vGraph g r with
 | false =>
  rw [hb] at hv
  exact Ev.step (fun k => by simp only [laws_FnValidGraph.j0];rw [if_pos (by rfl)]) (Ev.bind hv (Ev.now _))
 | true =>
  refine Ev.step (fun k => by simp only [laws_FnValidGraph.j0];rw [if_neg (by decide)]) ?_
  refine ev_steps (L := fun k (_ : Unit) i => laws_FnValidGraph.l0 k i g r) (n := g.length) (fun _ => ()) (r := true) (fun i hi2 q2 hq => ?_) ?_
  ·have h2 := impl_ValidGraph_ev g (i : Int) (by omega)
   rw [vGraph_root hb (i : Int) (by omega) (by omega)] at h2
   exact Ev.step (fun k => by simp only [laws_FnValidGraph.l0];rw [if_pos (by omega),w64s hi2 (by omega)]) (Ev.bind h2 (Ev.ite_pos rfl hq))
  ·exact Ev.step (fun k => by simp only [laws_FnValidGraph.l0];rw [if_neg (by omega)]) (Ev.now _)
end Go.Proofs.Ytfhakhbmbnbneaa.Pure
