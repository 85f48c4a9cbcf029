/- The nodes to which ways lead: the reference's list and the program's, one walk. -/
import Derived.Test.YtfhakhbmbnbneaaHcircle
import Derived.Test.YtfhakhbmbnbneaaQ63
import Derived.Test.YtfhakhbmbnbneaaQ73
namespace Go.Proofs.Ytfhakhbmbnbneaa.Q
open Go.RowKit Go.Proofs.YtfhakhbmbnbneaaW.PrintWords
set_option linter.unusedVariables false
set_option linter.unusedSimpArgs false

/-- Both walks, from any node, with any list of nodes met before. -/
theorem reach_both (g : List Nd) (root : Int) (hg : g.length ≤ 12) (hk : KidsIn g) : ∀ (d : Nat) (i : Int) (S : List Int), free g.length S = d → 0 ≤ i → i < (g.length : Int) → S.length + free g.length S ≤ 12 →
    ∃ r : List Int, Ev (fun k => spec_reach.f k g root i S) r ∧ Ev (fun k => impl_reachOf.walk k g i S) r ∧ r.length + free g.length r ≤ 12 ∧ free g.length r ≤ free g.length S := by
  intro d
  induction d using Nat.strongRecOn with
  | _ d ih =>
    intro i S hd h0 h1 hS
    by_cases hm : i ∈ S
    · refine ⟨S, ?_, ?_, hS, Nat.le_refl _⟩
      · refine Ev.step (fun k => by simp only [spec_reach.f]; exact rfl) ?_
        refine Ev.bind (placeIn_ev S i (by omega)) (Ev.ite_pos ?_ (Ev.now _))
        exact (placeOf_pos S i).2 hm
      · exact Ev.step (fun k => by simp only [impl_reachOf.walk]; rw [if_pos h0, if_pos h1, if_pos hm]) (Ev.now _)
    · have hf := free_add g.length S i h0 h1 hm
      have hkl := hk.few h0 h1
      have kids : ∀ (e j : Nat) (T : List Int), (nd g i).f2.length - j = e → j ≤ (nd g i).f2.length → free g.length T < d → T.length + free g.length T ≤ 12 →
          ∃ r : List Int, Ev (fun k => spec_reach.l0 k i T (j : Int) g root) r ∧ Ev (fun k => impl_reachOf.kids k g (nd g i).f2 (j : Int) T) r ∧ r.length + free g.length r ≤ 12 ∧ free g.length r ≤ free g.length T := by
        intro e
        induction e with
        | zero =>
          intro j T he hj hT hT2
          obtain rfl : j = (nd g i).f2.length := by omega
          refine ⟨T, ?_, ?_, hT2, Nat.le_refl _⟩
          · exact Ev.step (fun k => by simp only [spec_reach.l0]; rw [if_pos h0, if_pos h1, if_neg (show ¬ (((nd g i).f2.length : Nat) : Int) < ((nd g i).f2.length : Int) by omega)]) (Ev.now _)
          · exact Ev.step (fun k => by simp only [impl_reachOf.kids]; rw [if_neg (by omega)]) (Ev.now _)
        | succ e ihe =>
          intro j T he hj hT hT2
          have hjl : j < (nd g i).f2.length := by omega
          have hin := hk.mem h0 h1 (List.getElem_mem hjl)
          obtain ⟨T', a1, a2, a3, a4⟩ := ih _ hT (nd g i).f2[j] T rfl hin.1 hin.2 hT2
          obtain ⟨r, b1, b2, b3, b4⟩ := ihe (j + 1) T' (by omega) (by omega) (by omega) a3
          refine ⟨r, ?_, ?_, b3, by omega⟩
          · refine Ev.step (fun k => by simp only [spec_reach.l0]; rw [if_pos h0, if_pos h1, if_pos (show (j : Int) < ((nd g i).f2.length : Int) by omega), if_pos (by omega), rdN, getD_lt 0 hjl, w64s hjl (by omega)]) ?_
            exact Ev.bind a1 b1
          · refine Ev.step (fun k => by simp only [impl_reachOf.kids]; rw [if_pos (by omega), if_pos (by omega), rdN, getD_lt 0 hjl, w64s hjl (by omega)]) ?_
            exact Ev.bind a2 b2
      have hlen : (S ++ [i]).length = S.length + 1 := by rw [List.length_append, List.length_singleton]
      obtain ⟨r, b1, b2, b3, b4⟩ := kids _ 0 (S ++ [i]) rfl (by omega) (by omega) (by omega)
      refine ⟨r, ?_, ?_, b3, by omega⟩
      · refine Ev.step (fun k => by simp only [spec_reach.f]; exact rfl) ?_
        refine Ev.bind (placeIn_ev S i (by omega)) (Ev.ite_neg ?_ ?_)
        · exact fun z => hm ((placeOf_pos S i).1 z)
        · refine Ev.bind0 (a := S) ?_ (Ev.ite_pos (by omega) b1)
          unfold spec_copyInts.f
          rw [Option.bind_some, if_pos (by rw [List.length_nil]; omega), List.nil_append]
      · refine Ev.step (fun k => by simp only [impl_reachOf.walk]; rw [if_pos h0, if_pos h1, if_neg hm, if_pos (by omega)]) ?_
        exact b2
end Go.Proofs.Ytfhakhbmbnbneaa.Q
