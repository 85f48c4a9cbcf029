/- New machines are valid, hold nothing but what they are told to hold, and are what no orders leave: for every code of the draws, without a condition. -/
import Derived.Test.YtbokjhdhpmmpfaaHdraw
import Derived.Test.YtbokjhdhpmmpfaaQ11
import Derived.Test.YtbokjhdhpmmpfaaQ47
namespace Go.Proofs.Ytbokjhdhpmmpfaa.Pure
open Go.RowKit Go.Proofs.Ytbokjhdhpmmpfaa.Q Go.Proofs.YtbokjhdhpmmpfaaW.PrintWords
set_option linter.unusedVariables false
set_option linter.unusedSimpArgs false

set_option maxRecDepth 100000 in
theorem FnNewMachine : laws_FnNewMachine.Pure := by
  intro l hm _ hw
  refine ⟨100, ?_⟩
  unfold laws_FnNewMachine.f
  by_cases h : (l.length : Int) > 1048576
  · rw [if_pos h]
  · rw [if_neg h]
    obtain ⟨c, hc, hcode⟩ := newReader_ev l hw
    obtain ⟨t, ht, hin⟩ := one_ev c hcode 0 [0, 1, 2, -1] (by omega) (by omega) (by simp)
    have hd : spec_DrawNewMachine.f 100 l = some t := by
      unfold spec_DrawNewMachine.f
      rw [hc]
      simp only [Option.bind_some]
      rw [ht 99]
      rfl
    rw [hd]
    have h4 : t = 0 ∨ t = 1 ∨ t = 2 ∨ t = -1 := by simpa using hin
    rcases h4 with e | e | e | e
    all_goals
      rw [e]
      refine Eq.trans ?_ (Eq.refl (some true))
      kernel_rfl
end Go.Proofs.Ytbokjhdhpmmpfaa.Pure
