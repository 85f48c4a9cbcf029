/- What the laws' own little functions tell: rows of numbers that are alike, and what stands in a row. -/
import Derived.Test.YtapaegcombfafaaHint
import Derived.Test.YtapaegcombfafaaQ13
namespace Go.Proofs.Ytapaegcombfafaa.Q
open Go.RowKit Go.Proofs.YtapaegcombfafaaW.PrintWords
set_option linter.unusedVariables false
set_option linter.unusedSimpArgs false
theorem equalInts_same (a:List Int) (ha:a.length≤4611686018427387904):Ev (fun k=>laws_equalInts.f k a a) true:=by
 unfold laws_equalInts.f
 refine Ev.ite_pos rfl ?_
 refine ev_steps (L:=fun k (_:Unit) i=>laws_equalInts.l0 k a a i) (n:=a.length) (fun _=>()) (r:=true) (fun i hi q hq=>?_) ?_
 ·exact Ev.step (fun k=>by simp only [laws_equalInts.l0];rw [if_pos (by omega),if_pos (by omega),if_pos (by omega),if_pos trivial,w64s hi (by omega)]) hq
 ·exact Ev.step (fun k=>by simp only [laws_equalInts.l0];rw [if_neg (by omega)]) (Ev.now _)
end Go.Proofs.Ytapaegcombfafaa.Q
