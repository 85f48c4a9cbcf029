/- The program's FrameBytes returns what the reference's returns: for every list of numbers and every number, without a condition. -/
import Derived.Test.YtnkmbihlkbiccaaHframe
import Derived.Test.YtnkmbihlkbiccaaQ6
namespace Go.Proofs.Ytnkmbihlkbiccaa.Pure
open Go.RowKit Go.Proofs.Ytnkmbihlkbiccaa.Q Go.Proofs.YtnkmbihlkbiccaaW.PrintWords
set_option linter.unusedVariables false
set_option linter.unusedSimpArgs false

theorem frames (l : List Int) (m : Int) (hn : l.length ≤ 1048576) : ∃ r : List Int, Ev (fun k => spec_FrameBytes.f k l m) r ∧ Ev (fun k => impl_FrameBytes.f k l m) r ∧ r.length ≤ 10000 := by
  unfold spec_FrameBytes.f impl_FrameBytes.f
  have hv := validBytes_ev l (by omega)
  rw [bytesOk_eq]
  cases hb : (decide ((l.length : Int) ≤ 1000) && allB l) with
  | false =>
    rw [hb] at hv
    refine ⟨[], Ev.bind hv (Ev.ite_neg (by simp) ?_), Ev.bind0 rfl (Ev.ite_neg (by simp) ?_), by simp⟩
    · refine Ev.step (fun k => by simp only [spec_FrameBytes.j0]; exact rfl) ?_
      first | exact Ev.ite_pos trivial (Ev.now _) | exact Ev.ite_pos rfl (Ev.now _)
    · refine Ev.step (fun k => by simp only [impl_FrameBytes.j0]; exact rfl) ?_
      first | exact Ev.ite_pos trivial (Ev.now _) | exact Ev.ite_pos rfl (Ev.now _)
  | true =>
    rw [hb] at hv
    rw [inRange_eq]
    have hl : (l.length : Int) ≤ 1000 := by
      rw [Bool.and_eq_true, decide_eq_true_iff] at hb
      exact hb.1
    by_cases h1 : 1 ≤ m
    · by_cases h2 : m ≤ 200
      · obtain ⟨j, rfl⟩ : ∃ j : Nat, m = j := ⟨m.toNat, by omega⟩
        obtain ⟨r, hs, hi, hr⟩ := frame_both l j (by omega) (by omega) (by omega) l.length 0 [] (by omega) (by omega) (by simp)
        refine ⟨r, Ev.bind hv (Ev.ite_pos rfl (Ev.bind0 rfl ?_)), Ev.bind0 rfl (Ev.ite_pos rfl (Ev.ite_neg (by omega) ?_)), hr⟩
        · rw [decide_eq_true h1, decide_eq_true h2]
          refine Ev.step (fun k => by simp only [spec_FrameBytes.j0]; exact rfl) ?_
          exact Ev.ite_neg (by decide) hs
        · rw [decide_eq_false (show ¬ ((j : Int) > 200) by omega)]
          refine Ev.step (fun k => by simp only [impl_FrameBytes.j0]; exact rfl) ?_
          exact Ev.ite_neg (by decide) hi
      · refine ⟨[], Ev.bind hv (Ev.ite_pos rfl (Ev.bind0 rfl ?_)), Ev.bind0 rfl (Ev.ite_pos rfl (Ev.ite_neg (by omega) ?_)), by simp⟩
        · rw [decide_eq_false h2, Bool.and_false]
          refine Ev.step (fun k => by simp only [spec_FrameBytes.j0]; exact rfl) ?_
          first | exact Ev.ite_pos trivial (Ev.now _) | exact Ev.ite_pos rfl (Ev.now _)
        · rw [decide_eq_true (show m > 200 by omega)]
          refine Ev.step (fun k => by simp only [impl_FrameBytes.j0]; exact rfl) ?_
          first | exact Ev.ite_pos trivial (Ev.now _) | exact Ev.ite_pos rfl (Ev.now _)
    · refine ⟨[], Ev.bind hv (Ev.ite_pos rfl (Ev.bind0 rfl ?_)), Ev.bind0 rfl (Ev.ite_pos rfl (Ev.ite_pos (by omega) ?_)), by simp⟩
      · rw [decide_eq_false h1, Bool.false_and]
        refine Ev.step (fun k => by simp only [spec_FrameBytes.j0]; exact rfl) ?_
        first | exact Ev.ite_pos trivial (Ev.now _) | exact Ev.ite_pos rfl (Ev.now _)
      · refine Ev.step (fun k => by simp only [impl_FrameBytes.j0]; exact rfl) ?_
        first | exact Ev.ite_pos trivial (Ev.now _) | exact Ev.ite_pos rfl (Ev.now _)

theorem FnExactFrameBytes : laws_FnExactFrameBytes.Pure := by
  intro l m hm _ _ _
  apply Ev.rounds
  unfold laws_FnExactFrameBytes.f
  by_cases h : (l.length : Int) > 1048576
  · exact Ev.ite_pos h (Ev.now _)
  · refine Ev.ite_neg h ?_
    have ht := toIntS_ev l (by omega)
    obtain ⟨r, hs, hi, hl⟩ := frames l m (by omega)
    have heq := eqIntS_same r (by omega)
    have hheld := heldIntS_ev r.length 1 (by omega) (by omega)
    refine Ev.bind ht (Ev.bind hs (Ev.bind ht (Ev.bind hi (Ev.bind heq (Ev.ite_pos rfl ?_)))))
    refine Ev.bind ht (Ev.bind (eqIntS_same l (by omega)) (Ev.ite_pos rfl (Ev.bind (markIntS_ev l 1 (by omega) (by omega)) (Ev.ite_neg (by omega) (Ev.bind heq ?_)))))
    refine Ev.step (fun k => by simp only [laws_FnExactFrameBytes.j0]; exact rfl) ?_
    refine Ev.ite_neg (by decide) (Ev.bind (markIntS_ev r 1 (by omega) (by omega)) (Ev.bind hheld (Ev.ite_neg (by omega) (Ev.ite_pos rfl ?_))))
    exact Ev.bind ht (Ev.bind hi (Ev.bind heq (Ev.ite_pos rfl (Ev.bind hheld (Ev.ite_neg (by omega) (Ev.ite_pos rfl (Ev.now _)))))))
end Go.Proofs.Ytnkmbihlkbiccaa.Pure
