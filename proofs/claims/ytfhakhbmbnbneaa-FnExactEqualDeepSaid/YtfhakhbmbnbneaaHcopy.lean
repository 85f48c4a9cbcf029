/- Nodes copied by the reference. -/
import Derived.Test.YtfhakhbmbnbneaaHcircle
import Derived.Test.YtfhakhbmbnbneaaQ77
namespace Go.Proofs.Ytfhakhbmbnbneaa.Q
open Go.RowKit Go.Proofs.YtfhakhbmbnbneaaW.PrintWords
set_option linter.unusedVariables false
set_option linter.unusedSimpArgs false

theorem copyInts_eq' (l : List Int) (h : l.length < 17592186044416) : spec_copyInts.f l = some l := by
 unfold spec_copyInts.f
 rw [Option.bind_some,if_pos (by rw [List.length_nil];omega),List.nil_append]
theorem copyGraph_ev (g : List Nd) (r : Int) (hg : g.length ≤ 1000) (hk : KidsIn g) : Ev (fun k => spec_copyGraph.f k g r) (g,r) := by
 unfold spec_copyGraph.f
 have h := ev_steps (L := fun k (b : List Nd) i => spec_copyGraph.l0 k i g r b r) (n := g.length) (fun i => g.take i) (r := (g,r)) (fun i hi q hq => ?_) ?_
 ·simpa using h
 ·have hf := hk.few (i := (i : Int)) (by omega) (by omega)
  refine Ev.step (fun k => by simp only [spec_copyGraph.l0];rw [if_pos (by omega),if_pos (by omega)]) ?_
  refine Ev.bind0 (copyInts_eq' (nd g (i : Int)).f2 (by omega)) (Ev.ite_pos (by rw [List.length_take];omega) ?_)
  rw [w64s hi (by omega)]
  refine Ev.congr (fun k => ?_) hq
  congr 1
  rw [take_getD zNd hi,← rdG]
 ·exact Ev.step (fun k => by simp only [spec_copyGraph.l0];rw [if_neg (by omega)]) (Ev.at (Ev.now _) (by rw [List.take_length]))
end Go.Proofs.Ytfhakhbmbnbneaa.Q
