/- Rules of a run alone and rules of classes alone are valid where both together are, and the program's ValidRules says what the reference's says: for every code of the draws, without a condition. -/
import Derived.Test.YtbokjhdhpmmpfaaHshape
import Derived.Test.YtbokjhdhpmmpfaaHrules
import Derived.Test.YtbokjhdhpmmpfaaQ37
namespace Go.Proofs.Ytbokjhdhpmmpfaa.Pure
open Go.RowKit Go.Proofs.Ytbokjhdhpmmpfaa.Q Go.Proofs.YtbokjhdhpmmpfaaW.PrintWords
set_option linter.unusedVariables false
set_option linter.unusedSimpArgs false

theorem FnValidRules : laws_FnValidRules.Pure := by
 intro l hm _ hw
 apply Ev.rounds
 unfold laws_FnValidRules.f
 by_cases h : (l.length : Int) > 1048576
 ·exact Ev.ite_pos h (Ev.now _)
 ·refine Ev.ite_neg h ?_
  obtain ⟨⟨s,n,d,c⟩,hr,hc⟩ := DrawValidRules_ev l hw
  simp only at hc
  have e := implValidRules_ev s n d c (by omega)
  have e' := specValidRules_ev s n d c (by omega)
  refine Ev.bind hr (Ev.bind e (Ev.bind e' (Ev.ite_neg (by simp) ?_)))
  cases hv : vRules s n d c with
  | false =>
   rw [hv] at e'
   refine Ev.step (f := fun k => (spec_ValidRules.f k s n d c).bind fun t => some (false == t)) (fun k => by simp only [laws_FnValidRules.j0];rw [if_pos (by simp)]) ?_
   exact Ev.bind e' (Ev.now _)
  | true =>
   unfold vRules at hv
   simp only [Bool.and_eq_true] at hv
   obtain ⟨hl,⟨hs,hn⟩,hd⟩ := hv
   refine Ev.step (f := fun k => (impl_ValidRules.f k s n d ([] : List Int)).bind fun t => if t = true then (impl_ValidRules.f k 0 0 0 c).bind fun u => some u else some false) (fun k => by simp only [laws_FnValidRules.j0];rw [if_neg (by simp)]) ?_
   refine Ev.bind (implValidRules_ev s n d [] (by simp)) (Ev.ite_pos (by simp [vRules,hs,hn,hd]) ?_)
   refine Ev.bind (implValidRules_ev 0 0 0 c (by omega)) (Ev.at (Ev.now _) ?_)
   simp only [vRules,hl]
   decide
end Go.Proofs.Ytbokjhdhpmmpfaa.Pure
