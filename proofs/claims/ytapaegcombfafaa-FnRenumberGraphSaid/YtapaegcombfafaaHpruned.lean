/- Nodes told anew: with other numbers of their kids; and a graph of the nodes that are reached. -/
import Derived.Test.YtapaegcombfafaaHcircle
import Derived.Test.YtapaegcombfafaaHmapped
namespace Go.Proofs.Ytapaegcombfafaa.Q
open Go.RowKit Go.Proofs.YtapaegcombfafaaW.PrintWords
set_option linter.unusedVariables false
set_option linter.unusedSimpArgs false
def placedN (list:List Int) (x:Nd):Nd:=⟨x.f0,x.f1,x.f2.map (placeOf list)⟩
def prunedL (g:List Nd) (list:List Int):List Nd:=list.map (fun i=>placedN list (nd g i))
theorem prunedL_len (g:List Nd) (list:List Int):(prunedL g list).length=list.length:=by simp [prunedL]
theorem placeOf_nth {list:List Int} (hd:list.Nodup) {m:Nat} (hm:m<list.length):placeOf list list[m]=(m:Int):=by
 unfold placeOf
 rw [List.Nodup.idxOf_getElem hd m hm,if_pos hm]
end Go.Proofs.Ytapaegcombfafaa.Q
