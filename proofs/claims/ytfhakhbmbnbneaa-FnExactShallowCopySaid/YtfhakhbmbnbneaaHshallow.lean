/- A graph with a copy of its root, by both. -/
import Derived.Test.YtfhakhbmbnbneaaHcopy
import Derived.Test.YtfhakhbmbnbneaaQ45
import Derived.Test.YtfhakhbmbnbneaaQ46
import Derived.Test.YtfhakhbmbnbneaaQ98
namespace Go.Proofs.Ytfhakhbmbnbneaa.Q
open Go.RowKit Go.Proofs.YtfhakhbmbnbneaaW.PrintWords
set_option linter.unusedVariables false
set_option linter.unusedSimpArgs false

theorem copyNodes_ev (g : List Nd) (hg : g.length ≤ 1000) (hk : ∀ x ∈ g,x.f2.length ≤ 1000) : Ev (fun k => impl_copyNodes.f k g) g := by
 unfold impl_copyNodes.f
 have h := ev_steps (L := fun k (b : List Nd) i => impl_copyNodes.l0 k b g (g.length : Int) i) (n := g.length) (fun i => g.take i) (r := g) (fun i hi q hq => ?_) ?_
 ·simpa using h
 ·have hf := hk g[i] (List.getElem_mem hi)
  refine Ev.step (fun k => by simp only [impl_copyNodes.l0];rw [if_pos (by omega),if_pos (by omega),if_pos (by omega),rdG,getD_lt zNd hi]) ?_
  refine Ev.bind0 (a := g[i].f2) (by unfold slices_Clone_int_int.f;rw [if_pos (by omega)]) (Ev.ite_pos (by rw [List.length_take];omega) ?_)
  rw [w64s hi (by omega)]
  refine Ev.congr (fun k => ?_) hq
  congr 1
  rw [take_getD zNd hi,getD_lt zNd hi]
 ·exact Ev.step (fun k => by simp only [impl_copyNodes.l0];rw [if_neg (by omega)]) (Ev.at (Ev.now _) (by rw [List.take_length]))
theorem shallow_no_s (g : List Nd) (r : Int) : Ev (fun k => spec_ShallowCopy.j0 k true g r) ([],0) := Ev.step (fun k => by simp only [spec_ShallowCopy.j0];rw [if_pos trivial]) (Ev.now _)
theorem shallow_no_i (g : List Nd) (r : Int) : Ev (fun k => impl_ShallowCopy.j0 k true g r) ([],0) := Ev.step (fun k => by simp only [impl_ShallowCopy.j0];rw [if_pos trivial]) (Ev.now _)
theorem shallow_s (g : List Nd) (r : Int) (hg : g.length ≤ 12) (hk : KidsIn g) (h0 : 0 ≤ r) (h1 : r < (g.length : Int)) : Ev (fun k => spec_ShallowCopy.j0 k false g r) (g ++ [nd g r],(g.length : Int)) := by
 have hf := hk.few h0 h1
 refine Ev.step (fun k => by simp only [spec_ShallowCopy.j0];rw [if_neg (by decide)]) ?_
 refine Ev.bind (copyGraph_ev g r (by omega) hk) (Ev.ite_pos h0 (Ev.ite_pos h1 ?_))
 exact Ev.bind0 (copyInts_eq' (nd g r).f2 (by omega)) (Ev.ite_pos (by dsimp only;omega) (Ev.now _))
theorem shallow_i (g : List Nd) (r : Int) (hg : g.length ≤ 12) (hk : KidsIn g) (h0 : 0 ≤ r) (h1 : r < (g.length : Int)) : Ev (fun k => impl_ShallowCopy.j0 k false g r) (g ++ [nd g r],(g.length : Int)) := by
 have hf := hk.few h0 h1
 refine Ev.step (fun k => by simp only [impl_ShallowCopy.j0];rw [if_neg (by decide)]) (Ev.ite_pos h0 (Ev.ite_pos h1 ?_))
 refine Ev.bind0 (a := g) ?_ ?_
 ·unfold impl_Node.f
  rw [Option.bind_some,if_pos (by rw [List.length_nil];omega),List.nil_append]
 ·refine Ev.bind0 rfl (Ev.ite_pos (by rw [List.length_singleton];omega) ?_)
  refine Ev.bind (copyNodes_ev _ (by rw [List.length_append,List.length_singleton];omega) (fun x hx => ?_)) (Ev.now _)
  rcases List.mem_append.1 hx with hx | hx
  ·obtain ⟨i,hi,rfl⟩ := List.getElem_of_mem hx
   have h2 := hk.few (i := (i : Int)) (by omega) (by omega)
   have e : nd g (i : Int) = g[i] := by
    show rd_T45 g (i : Int) = _
    rw [rdG,getD_lt zNd hi]
   rw [e] at h2
   omega
  ·rw [List.mem_singleton] at hx
   rw [hx]
   show (nd g r).f2.length ≤ 1000
   omega
end Go.Proofs.Ytfhakhbmbnbneaa.Q
