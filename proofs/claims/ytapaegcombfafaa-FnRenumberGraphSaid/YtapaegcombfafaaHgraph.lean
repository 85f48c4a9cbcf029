/- What the printed functions over graphs tell: sizes, copies, equality. -/
import Derived.Test.YtapaegcombfafaaHint
namespace Go.Proofs.Ytapaegcombfafaa.Q
open Go.RowKit Go.Proofs.YtapaegcombfafaaW.PrintWords
set_option linter.unusedVariables false
set_option linter.unusedSimpArgs false
abbrev Nd:=S58
abbrev zNd:Nd:=z58
abbrev LNd:=S81
theorem rdG (l:List Nd) (i:Nat):rd_T58 l (i:Int)=l.getD i zNd:=by simp [rd_T58]
theorem rdLG (l:List LNd) (i:Nat):rd_T81 l (i:Int)=l.getD i z81:=by simp [rd_T81]
def toNd (x:LNd):Nd:=⟨x.f0,x.f1,x.f2⟩
end Go.Proofs.Ytapaegcombfafaa.Q
