/- TakesOf is told for just the codes of orders, and no order pushes more than one thing: for every code of the draws, without a condition. -/
import Derived.Test.YtnkmbihlkbiccaaHdraw
import Derived.Test.YtnkmbihlkbiccaaQ20
namespace Go.Proofs.Ytnkmbihlkbiccaa.Pure
open Go.RowKit Go.Proofs.Ytnkmbihlkbiccaa.Q Go.Proofs.YtnkmbihlkbiccaaW.PrintWords
set_option linter.unusedVariables false
set_option linter.unusedSimpArgs false

theorem takes_in (a0 : Int) (h0 : 0 ≤ a0) (h1 : a0 ≤ 19) : ∃ r : Int × Int, spec_TakesOf.f a0 = some r ∧ impl_TakesOf.f 5 a0 = some r ∧ -1 ≤ r.1 ∧ r.1 ≤ 2 ∧ 0 ≤ r.2 ∧ r.2 ≤ 1 := by
  have h : a0 = 0 ∨ a0 = 1 ∨ a0 = 2 ∨ a0 = 3 ∨ a0 = 4 ∨ a0 = 5 ∨ a0 = 6 ∨ a0 = 7 ∨ a0 = 8 ∨ a0 = 9 ∨ a0 = 10 ∨ a0 = 11 ∨ a0 = 12 ∨ a0 = 13 ∨ a0 = 14 ∨ a0 = 15 ∨ a0 = 16 ∨ a0 = 17 ∨ a0 = 18 ∨ a0 = 19 := by omega
  rcases h with rfl | rfl | rfl | rfl | rfl | rfl | rfl | rfl | rfl | rfl | rfl | rfl | rfl | rfl | rfl | rfl | rfl | rfl | rfl | rfl <;> exact ⟨_, rfl, rfl, by decide, by decide, by decide, by decide⟩

theorem takes_out (a0 : Int) (h : a0 < 0 ∨ 19 < a0) : spec_TakesOf.f a0 = some (-2, -2) ∧ impl_TakesOf.f 5 a0 = some (-2, -2) := by
  have e : ∀ c : Int, 0 ≤ c → c ≤ 19 → ¬ a0 = c := fun c h0 h1 he => by omega
  have b : ∀ c : Int, 0 ≤ c → c ≤ 19 → (a0 == c) = false := fun c h0 h1 => beq_eq_false_iff_ne.mpr (e c h0 h1)
  constructor
  · unfold spec_TakesOf.f spec_inRange.f
    rcases h with h | h
    · rw [if_neg (by omega)]; rfl
    · rw [if_pos (by omega)]
      simp only [Option.bind_some]
      rw [if_neg (by simp; omega)]
  · unfold impl_TakesOf.f
    rw [if_neg (e 0 (by omega) (by omega)), if_neg (e 1 (by omega) (by omega)), if_neg (e 13 (by omega) (by omega)), if_neg (e 4 (by omega) (by omega)), if_neg (e 7 (by omega) (by omega)), if_neg (e 10 (by omega) (by omega)), if_neg (e 2 (by omega) (by omega)), b 16 (by omega) (by omega)]
    simp [impl_TakesOf.j0, impl_TakesOf.j1, impl_TakesOf.j2, e 5, e 6, e 8, e 14, e 17, e 11, e 15, e 19, e 3, e 9, e 12, e 18, b 5, b 6, b 8, b 14, b 17, b 11, b 15, b 19, b 3, b 9, b 12, b 18]

theorem FnTakesOf : laws_FnTakesOf.Pure := by
  intro l hm _ hw
  refine ⟨5, ?_⟩
  unfold laws_FnTakesOf.f
  by_cases h : (l.length : Int) > 1048576
  · rw [if_pos h]
  · rw [if_neg h]
    obtain ⟨c, hc, hcode⟩ := newReader_ev l hw
    obtain ⟨x, hx, _⟩ := pick_ev c hcode 0 20 (by omega) (by omega)
    obtain ⟨t, ht, _⟩ := one_ev c hcode (0 + 1) [x, 0, 19, 20, -1] (by omega) (by omega) (by simp)
    have hd : spec_DrawTakesOf.f 5 l = some t := by
      unfold spec_DrawTakesOf.f
      rw [hc]
      simp only [Option.bind_some]
      rw [hx 4]
      simp only [Option.bind_some]
      rw [ht 4]
      rfl
    rw [hd]
    simp only [Option.bind_some]
    by_cases h19 : 0 ≤ t ∧ t ≤ 19
    · obtain ⟨r, h1, h2, h3, h4, h5, h6⟩ := takes_in t h19.1 h19.2
      rw [h1, h2]
      simp only [Option.bind_some, if_true]
      rw [if_neg (by omega), if_pos (by omega), if_pos (by omega), if_pos (by omega), if_pos (by omega), if_pos (by omega)]
      simp [h6]
    · obtain ⟨h1, h2⟩ := takes_out t (by omega)
      rw [h1, h2]
      simp
end Go.Proofs.Ytnkmbihlkbiccaa.Pure
