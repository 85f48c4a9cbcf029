/- The code of a graph, by both. -/
import Derived.Test.YtfhakhbmbnbneaaHcode
import Derived.Test.YtfhakhbmbnbneaaQ75
import Derived.Test.YtfhakhbmbnbneaaQ76
namespace Go.Proofs.Ytfhakhbmbnbneaa.Q
open Go.RowKit Go.Proofs.YtfhakhbmbnbneaaW.PrintWords
set_option linter.unusedVariables false
set_option linter.unusedSimpArgs false

theorem codeOf_both (g : List Nd) (r : Int) (hg : g.length ≤ 12) (hk : KidsIn g) (hl : Leaf0 g) (h0 : 0 ≤ r) (h1 : r < (g.length : Int)) :
  ∃ q : List Int,Ev (fun k => spec_codeOf.f k g r) q ∧ Ev (fun k => impl_codesOf.f k g [r]) q ∧ q.length ≤ 300 := by
 have hf := free_le g.length ([] : List Int)
 obtain ⟨q,m,T',a1,a2,a3,a4,a5,a6⟩ := code_both g r hg hk hl _ r [] [] [] rfl h0 h1 TabOf.nil (by rw [List.length_nil];omega) (by rw [List.length_nil];omega)
 rw [List.length_nil] at a6
 refine ⟨q,?_,?_,by omega⟩
 ·unfold spec_codeOf.f
  exact Ev.bind a1 (Ev.now _)
 ·unfold impl_codesOf.f
  refine Ev.step (fun k => by simp only [impl_codesOf.roots];rw [if_pos (by simp),if_pos (by decide)]) ?_
  refine Ev.bind (a := (q,T')) a2 ?_
  exact Ev.step (fun k => by simp only [impl_codesOf.roots];rw [if_neg (by simp [wrap64])]) (Ev.now _)
end Go.Proofs.Ytfhakhbmbnbneaa.Q
