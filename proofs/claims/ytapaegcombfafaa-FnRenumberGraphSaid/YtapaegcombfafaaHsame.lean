/- Lists of numbers, compared: by the reference and by the library. -/
import Derived.Test.YtapaegcombfafaaHint
import Derived.Test.YtapaegcombfafaaQ36
namespace Go.Proofs.Ytapaegcombfafaa.Q
open Go.RowKit Go.Proofs.YtapaegcombfafaaW.PrintWords
set_option linter.unusedVariables false
set_option linter.unusedSimpArgs false
theorem all_same {l m:List Int} (h:l.length=m.length):(List.range l.length).all (fun i=>decide (l.getD i 0=m.getD i 0))=decide (l=m):=by
 rw [Bool.eq_iff_iff,List.all_eq_true,decide_eq_true_eq]
 constructor
 ·intro hh
  refine List.ext_getElem h (fun i h1 h2=>?_)
  have:=of_decide_eq_true (hh i (List.mem_range.2 h1))
  rwa [getD_lt 0 h1,getD_lt 0 h2] at this
 ·rintro rfl i hi
  simp
theorem equal_ev (l m:List Int) (hn:l.length≤4611686018427387904):Ev (fun k=>slices_Equal_int_int.f k l m) (decide (l=m)):=by
 unfold slices_Equal_int_int.f
 by_cases h:l.length=m.length
 ·refine Ev.ite_pos (by omega) ?_
  have h2:=ev_all (L:=fun k i=>slices_Equal_int_int.l0 k l m (l.length:Int) i) (n:=l.length) (p:=fun i=>decide (l.getD i 0=m.getD i 0)) (fin:=true) (fun i hi hp r hr=>?_) (fun i hi hp=>?_) ?_
  ·rw [Bool.and_true,all_same h] at h2
   exact h2
  ·refine Ev.step (f:=fun k=>slices_Equal_int_int.l0 k l m (l.length:Int) ((i+1:Nat):Int)) (fun k=>?_) hr
   simp only [slices_Equal_int_int.l0]
   rw [if_pos (by omega),if_pos (by omega),if_pos (by omega),if_pos (by omega),rdN,rdN,if_pos (of_decide_eq_true hp),w64s hi hn]
  ·refine Ev.step (f:=fun _=>some false) (fun k=>?_) (Ev.now false)
   simp only [slices_Equal_int_int.l0]
   rw [if_pos (by omega),if_pos (by omega),if_pos (by omega),if_pos (by omega),rdN,rdN,if_neg (of_decide_eq_false hp)]
  ·refine Ev.step (f:=fun _=>some true) (fun k=>?_) (Ev.now true)
   simp only [slices_Equal_int_int.l0]
   rw [if_neg (by omega)]
 ·refine Ev.ite_neg (by omega) (Ev.at (Ev.now _) ?_)
  symm
  exact decide_eq_false (fun e=>h (by rw [e]))
end Go.Proofs.Ytapaegcombfafaa.Q
