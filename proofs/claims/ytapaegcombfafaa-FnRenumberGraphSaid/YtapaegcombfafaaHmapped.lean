/- Nodes told anew: with other numbers of their kids. -/
import Derived.Test.YtapaegcombfafaaHgraph
import Derived.Test.YtapaegcombfafaaQ56
namespace Go.Proofs.Ytapaegcombfafaa.Q
open Go.RowKit Go.Proofs.YtapaegcombfafaaW.PrintWords
set_option linter.unusedVariables false
set_option linter.unusedSimpArgs false
def mappedN (order:List Int) (x:Nd):Nd:=⟨x.f0,x.f1,x.f2.map (fun k=>order.getD k.toNat 0)⟩
theorem mapped_ev (x:Nd) (order:List Int) (hl:x.f2.length≤17592186044415) (hk:∀ k∈x.f2,0≤k∧k<(order.length:Int)) :
  Ev (fun k=>impl_mapped.f k x.f0 x.f1 x.f2 order) (x.f0,x.f1,(mappedN order x).f2):=by
 unfold impl_mapped.f
 have h:=ev_steps (L:=fun k (b:List Int) i=>impl_mapped.l0 k order x.f2 (x.f2.length:Int) i x.f0 x.f1 b) (n:=x.f2.length) (fun i=>((mappedN order x).f2).take i) (r:=(x.f0,x.f1,(mappedN order x).f2)) (fun i hi r hr=>?_) ?_
 ·simpa using h
 ·have hin:=hk x.f2[i] (List.getElem_mem hi)
  have hl2:(mappedN order x).f2.length=x.f2.length:=by simp [mappedN]
  refine Ev.step (fun k=>by simp only [impl_mapped.l0];rw [if_pos (by omega),if_pos (by omega),if_pos (by omega),rdN,getD_lt 0 hi,if_pos hin.1,if_pos hin.2,if_pos (by rw [List.length_take];omega),w64s hi (by omega)]) ?_
  refine Ev.congr (fun k=>?_) hr
  congr 1
  rw [take_getD 0 (by omega)]
  congr 2
  rw [getD_lt 0 (by omega)]
  simp [mappedN,rd]
 ·refine Ev.step (fun k=>by simp only [impl_mapped.l0];rw [if_neg (by omega)]) (Ev.at (Ev.now _) ?_)
  rw [show x.f2.length=(mappedN order x).f2.length by simp [mappedN],List.take_length]
end Go.Proofs.Ytapaegcombfafaa.Q
