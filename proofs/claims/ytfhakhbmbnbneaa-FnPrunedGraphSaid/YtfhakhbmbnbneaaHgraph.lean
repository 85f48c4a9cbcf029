/- What the printed functions over graphs tell: sizes, copies, equality. -/
import Derived.Test.YtfhakhbmbnbneaaHint
namespace Go.Proofs.Ytfhakhbmbnbneaa.Q
open Go.RowKit Go.Proofs.YtfhakhbmbnbneaaW.PrintWords
set_option linter.unusedVariables false
set_option linter.unusedSimpArgs false
abbrev Nd:=S45
abbrev zNd:Nd:=z45
abbrev LNd:=S74
theorem rdG (l:List Nd) (i:Nat):rd_T45 l (i:Int)=l.getD i zNd:=by simp [rd_T45]
theorem rdLG (l:List LNd) (i:Nat):rd_T74 l (i:Int)=l.getD i z74:=by simp [rd_T74]
def toNd (x:LNd):Nd:=⟨x.f0,x.f1,x.f2⟩
end Go.Proofs.Ytfhakhbmbnbneaa.Q
