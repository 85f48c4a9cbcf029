/- What the laws' own little functions tell of graphs: a graph is alike to itself. -/
import Derived.Test.YtapaegcombfafaaHeqs
import Derived.Test.YtapaegcombfafaaHcircle
import Derived.Test.YtapaegcombfafaaQ13
import Derived.Test.YtapaegcombfafaaQ36
import Derived.Test.YtapaegcombfafaaQ68
namespace Go.Proofs.Ytapaegcombfafaa.Q
open Go.RowKit Go.Proofs.YtapaegcombfafaaW.PrintWords
set_option linter.unusedVariables false
set_option linter.unusedSimpArgs false
theorem equalNodes_same (l:List Nd) (hn:l.length≤4611686018427387904) (hk:∀ x∈l,x.f2.length≤4611686018427387904):Ev (fun k=>laws_equalNodes.f k l l) true:=by
 unfold laws_equalNodes.f
 refine Ev.ite_pos rfl ?_
 refine ev_steps (L:=fun k (_:Unit) i=>laws_equalNodes.l0 k l l i) (n:=l.length) (fun _=>()) (r:=true) (fun i hi q hq=>?_) ?_
 ·refine Ev.step (fun k=>by simp only [laws_equalNodes.l0];rw [if_pos (by omega),if_pos (by omega),if_pos (by omega),if_pos trivial,if_pos trivial,rdG,getD_lt zNd hi,w64s hi (by omega)]) ?_
  exact Ev.bind (equalInts_same l[i].f2 (hk _ (List.getElem_mem hi))) (Ev.ite_pos rfl hq)
 ·exact Ev.step (fun k=>by simp only [laws_equalNodes.l0];rw [if_neg (by omega)]) (Ev.now _)
theorem equalGraph_same (l:List Nd) (r:Int) (hn:l.length≤4611686018427387904) (hk:∀ x∈l,x.f2.length≤4611686018427387904):Ev (fun k=>laws_equalGraph.f k l r l r) true:=by
 unfold laws_equalGraph.f
 exact Ev.ite_pos rfl (Ev.bind (equalNodes_same l hn hk) (Ev.now _))
end Go.Proofs.Ytapaegcombfafaa.Q
