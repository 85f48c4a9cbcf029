/- The program's StreamBytes returns what the reference's returns: for every list of orders and every number, without a condition. -/
import Derived.Test.YtbokjhdhpmmpfaaHframe
import Derived.Test.YtbokjhdhpmmpfaaQ20
import Derived.Test.YtbokjhdhpmmpfaaQ62
import Derived.Test.YtbokjhdhpmmpfaaHenc
import Derived.Test.YtbokjhdhpmmpfaaQ20
import Derived.Test.YtbokjhdhpmmpfaaQ62
import Derived.Test.YtbokjhdhpmmpfaaQ4
import Derived.Test.YtbokjhdhpmmpfaaQ59
import Derived.Test.YtbokjhdhpmmpfaaQ64
namespace Go.Proofs.Ytbokjhdhpmmpfaa.Pure
open Go.RowKit Go.Proofs.Ytbokjhdhpmmpfaa.Q Go.Proofs.YtbokjhdhpmmpfaaW.PrintWords
set_option linter.unusedVariables false
set_option linter.unusedSimpArgs false

theorem frames (l : List Int) (m : Int) (hn : l.length ≤ 1048576) : ∃ r : List Int, Ev (fun k => spec_FrameBytes.f k l m) r ∧ Ev (fun k => impl_FrameBytes.f k l m) r ∧ r.length ≤ 10000 := by
  unfold spec_FrameBytes.f impl_FrameBytes.f
  have hv := validBytes_ev l (by omega)
  rw [bytesOk_eq]
  cases hb : (decide ((l.length : Int) ≤ 1000) && allB l) with
  | false =>
    rw [hb] at hv
    refine ⟨[], Ev.bind hv (Ev.ite_neg (by simp) ?_), Ev.bind0 rfl (Ev.ite_neg (by simp) ?_), by simp⟩
    · refine Ev.step (fun k => by simp only [spec_FrameBytes.j0]; exact rfl) ?_
      first | exact Ev.ite_pos trivial (Ev.now _) | exact Ev.ite_pos rfl (Ev.now _)
    · refine Ev.step (fun k => by simp only [impl_FrameBytes.j0]; exact rfl) ?_
      first | exact Ev.ite_pos trivial (Ev.now _) | exact Ev.ite_pos rfl (Ev.now _)
  | true =>
    rw [hb] at hv
    rw [inRange_eq]
    have hl : (l.length : Int) ≤ 1000 := by
      rw [Bool.and_eq_true, decide_eq_true_iff] at hb
      exact hb.1
    by_cases h1 : 1 ≤ m
    · by_cases h2 : m ≤ 200
      · obtain ⟨j, rfl⟩ : ∃ j : Nat, m = j := ⟨m.toNat, by omega⟩
        obtain ⟨r, hs, hi, hr⟩ := frame_both l j (by omega) (by omega) (by omega) l.length 0 [] (by omega) (by omega) (by simp)
        refine ⟨r, Ev.bind hv (Ev.ite_pos rfl (Ev.bind0 rfl ?_)), Ev.bind0 rfl (Ev.ite_pos rfl (Ev.ite_neg (by omega) ?_)), hr⟩
        · rw [decide_eq_true h1, decide_eq_true h2]
          refine Ev.step (fun k => by simp only [spec_FrameBytes.j0]; exact rfl) ?_
          exact Ev.ite_neg (by decide) hs
        · rw [decide_eq_false (show ¬ ((j : Int) > 200) by omega)]
          refine Ev.step (fun k => by simp only [impl_FrameBytes.j0]; exact rfl) ?_
          exact Ev.ite_neg (by decide) hi
      · refine ⟨[], Ev.bind hv (Ev.ite_pos rfl (Ev.bind0 rfl ?_)), Ev.bind0 rfl (Ev.ite_pos rfl (Ev.ite_neg (by omega) ?_)), by simp⟩
        · rw [decide_eq_false h2, Bool.and_false]
          refine Ev.step (fun k => by simp only [spec_FrameBytes.j0]; exact rfl) ?_
          first | exact Ev.ite_pos trivial (Ev.now _) | exact Ev.ite_pos rfl (Ev.now _)
        · rw [decide_eq_true (show m > 200 by omega)]
          refine Ev.step (fun k => by simp only [impl_FrameBytes.j0]; exact rfl) ?_
          first | exact Ev.ite_pos trivial (Ev.now _) | exact Ev.ite_pos rfl (Ev.now _)
    · refine ⟨[], Ev.bind hv (Ev.ite_pos rfl (Ev.bind0 rfl ?_)), Ev.bind0 rfl (Ev.ite_pos rfl (Ev.ite_pos (by omega) ?_)), by simp⟩
      · rw [decide_eq_false h1, Bool.false_and]
        refine Ev.step (fun k => by simp only [spec_FrameBytes.j0]; exact rfl) ?_
        first | exact Ev.ite_pos trivial (Ev.now _) | exact Ev.ite_pos rfl (Ev.now _)
      · refine Ev.step (fun k => by simp only [impl_FrameBytes.j0]; exact rfl) ?_
        first | exact Ev.ite_pos trivial (Ev.now _) | exact Ev.ite_pos rfl (Ev.now _)

end Go.Proofs.Ytbokjhdhpmmpfaa.Pure

namespace Go.Proofs.Ytbokjhdhpmmpfaa.Q
open Go.RowKit Go.Proofs.YtbokjhdhpmmpfaaW.PrintWords
set_option linter.unusedVariables false
set_option linter.unusedSimpArgs false

theorem rdParts (l : List (List Op)) (i : Nat) : rd_L6 l (i : Int) = l.getD i [] := by simp [rd_L6]
set_option maxRecDepth 100000 in
theorem split_both (l : List Op) (hn : l.length ≤ 300) : ∀ (d i : Nat) (out : List (List Op)) (part : List Op), l.length - i = d → i ≤ l.length → out.length ≤ i → part.length ≤ i → (∀ p ∈ out, p.length ≤ 300) →
    ∃ r : List (List Op), Ev (fun k => spec_SplitStops.l0 k l out part (i : Int)) r ∧ Ev (fun k => impl_SplitStops.l0 k out part l (l.length : Int) (i : Int)) r ∧ r.length ≤ 301 ∧ ∀ p ∈ r, p.length ≤ 300 := by
  intro d
  induction d with
  | zero =>
    intro i out part hd hi ho hp ha
    obtain rfl : i = l.length := by omega
    by_cases h : (part.length : Int) > 0
    · refine ⟨out ++ [part], ?_, ?_, by rw [List.length_append, List.length_singleton]; omega, fun p hp' => ?_⟩
      · refine Ev.step (fun k => by unfold spec_SplitStops.l0; rw [if_neg (by omega), if_pos h]) ?_
        exact Ev.ite_pos (by omega) (Ev.now _)
      · refine Ev.step (fun k => by unfold impl_SplitStops.l0; rw [if_neg (by omega), if_pos h]) ?_
        exact Ev.bind0 rfl (Ev.ite_pos (by omega) (Ev.now _))
      · rcases List.mem_append.1 hp' with q | q
        · exact ha p q
        · rw [List.mem_singleton.1 q]
          omega
    · exact ⟨out, Ev.step (fun k => by unfold spec_SplitStops.l0; rw [if_neg (by omega), if_neg h]) (Ev.now _), Ev.step (fun k => by unfold impl_SplitStops.l0; rw [if_neg (by omega), if_neg h]) (Ev.now _), by omega, ha⟩
  | succ d ih =>
    intro i out part hd hi ho hp ha
    have hlt : i < l.length := by omega
    have hpl : (part ++ [(⟨(l.getD i zOp).f0, (l.getD i zOp).f1⟩ : Op)]).length ≤ i + 1 := by rw [List.length_append, List.length_singleton]; omega
    by_cases h : (l.getD i zOp).f0 = 19
    · obtain ⟨r, h1, h2, h3⟩ := ih (i + 1) (out ++ [part ++ [(⟨(l.getD i zOp).f0, (l.getD i zOp).f1⟩ : Op)]]) [] (by omega) (by omega) (by rw [List.length_append, List.length_singleton]; omega) (by simp) (fun p hp' => by
        rcases List.mem_append.1 hp' with q | q
        · exact ha p q
        · rw [List.mem_singleton.1 q]
          omega)
      refine ⟨r, ?_, ?_, h3⟩
      · refine Ev.step (fun k => by unfold spec_SplitStops.l0; rw [if_pos (by omega), if_pos (by omega), rdO, w64s hlt (by omega)]) ?_
        exact Ev.ite_pos (by omega) (Ev.bind0 rfl (Ev.ite_pos h (Ev.ite_pos (by omega) h1)))
      · refine Ev.step (fun k => by unfold impl_SplitStops.l0; rw [if_pos (by omega), if_pos (by omega), if_pos (by omega), rdO, w64s hlt (by omega)]) ?_
        exact Ev.ite_pos (by omega) (Ev.bind0 rfl (Ev.ite_pos h (Ev.bind0 rfl (Ev.ite_pos (by omega) h2))))
    · obtain ⟨r, h1, h2, h3⟩ := ih (i + 1) out (part ++ [(⟨(l.getD i zOp).f0, (l.getD i zOp).f1⟩ : Op)]) (by omega) (by omega) (by omega) hpl ha
      refine ⟨r, ?_, ?_, h3⟩
      · refine Ev.step (fun k => by unfold spec_SplitStops.l0; rw [if_pos (by omega), if_pos (by omega), rdO, w64s hlt (by omega)]) ?_
        exact Ev.ite_pos (by omega) (Ev.bind0 rfl (Ev.ite_neg h h1))
      · refine Ev.step (fun k => by unfold impl_SplitStops.l0; rw [if_pos (by omega), if_pos (by omega), if_pos (by omega), rdO, w64s hlt (by omega)]) ?_
        exact Ev.ite_pos (by omega) (Ev.bind0 rfl (Ev.ite_neg h h2))
theorem splits (l : List Op) (hv : vOps l = true) : ∃ r : List (List Op), Ev (fun k => spec_SplitStops.f k l) r ∧ Ev (fun k => impl_SplitStops.f k l) r ∧ r.length ≤ 301 ∧ ∀ p ∈ r, p.length ≤ 300 := by
  have hn := vOps_len hv
  obtain ⟨r, h1, h2, h3, h4⟩ := split_both l hn l.length 0 [] [] (by omega) (by omega) (by simp) (by simp) (by simp)
  unfold spec_SplitStops.f impl_SplitStops.f
  have hvs := validOps_ev l (by omega)
  have hvi := implValidOps_ev l (by omega)
  rw [hv] at hvs hvi
  exact ⟨r, Ev.bind hvs (Ev.ite_pos rfl h1), Ev.bind hvi (Ev.ite_pos rfl h2), h3, h4⟩
end Go.Proofs.Ytbokjhdhpmmpfaa.Q

namespace Go.Proofs.Ytbokjhdhpmmpfaa.Pure
open Go.RowKit Go.Proofs.Ytbokjhdhpmmpfaa.Q Go.Proofs.YtbokjhdhpmmpfaaW.PrintWords
set_option linter.unusedVariables false
set_option linter.unusedSimpArgs false

theorem streams (ps : List (List Q.Op)) (m : Int) (hn : ps.length ≤ 301) (hp : ∀ p ∈ ps, p.length ≤ 300) : ∀ (d i : Nat) (acc : List Int), ps.length - i = d → i ≤ ps.length → acc.length ≤ 10000 * i →
    ∃ r : List Int, Ev (fun k => spec_StreamBytes.l0 k m acc ps (i : Int)) r ∧ Ev (fun k => impl_StreamBytes.l0 k m acc ps (ps.length : Int) (i : Int)) r ∧ r.length ≤ 2000 := by
  intro d
  induction d with
  | zero =>
    intro i acc hd hi ha
    obtain rfl : i = ps.length := by omega
    by_cases h : (acc.length : Int) > 2000
    · exact ⟨[], Ev.step (fun k => by simp only [spec_StreamBytes.l0]; rw [if_neg (by omega), if_pos h]) (Ev.now _), Ev.step (fun k => by simp only [impl_StreamBytes.l0]; rw [if_neg (by omega), if_pos h]) (Ev.now _), by simp⟩
    · exact ⟨acc, Ev.step (fun k => by simp only [spec_StreamBytes.l0]; rw [if_neg (by omega), if_neg h]) (Ev.now _), Ev.step (fun k => by simp only [impl_StreamBytes.l0]; rw [if_neg (by omega), if_neg h]) (Ev.now _), by omega⟩
  | succ d ih =>
    intro i acc hd hi ha
    have hlt : i < ps.length := by omega
    have hpl := hp _ (List.getElem_mem hlt)
    have he : ∃ e : List Int, Ev (fun k => spec_EncodeOps.f k ps[i]) e ∧ Ev (fun k => impl_EncodeOps.f k ps[i]) e ∧ e.length ≤ 900 := ⟨_, specEnc_ev _ (by omega), implEnc_ev _ (by omega), implEnc_ev_len _⟩
    obtain ⟨e, he1, he2, he3⟩ := he
    obtain ⟨f, hf1, hf2, hf3⟩ := frames e m (by omega)
    obtain ⟨r, h1, h2, h3⟩ := ih (i + 1) (acc ++ f) (by omega) (by omega) (by rw [List.length_append]; omega)
    refine ⟨r, ?_, ?_, h3⟩
    · refine Ev.step (fun k => by simp only [spec_StreamBytes.l0]; rw [if_pos (by omega), if_pos (by omega), rdParts, getD_lt _ hlt, w64s hlt (by omega)]) ?_
      exact Ev.bind he1 (Ev.bind hf1 (Ev.ite_pos (by omega) h1))
    · refine Ev.step (fun k => by simp only [impl_StreamBytes.l0]; rw [if_pos (by omega), if_pos (by omega), if_pos (by omega), rdParts, getD_lt _ hlt, w64s hlt (by omega)]) ?_
      exact Ev.bind he2 (Ev.bind hf2 (Ev.ite_pos (by omega) h2))

theorem both (l : List Q.Op) (m : Int) (hn : l.length ≤ 1048576) : ∃ r : List Int, Ev (fun k => spec_StreamBytes.f k l m) r ∧ Ev (fun k => impl_StreamBytes.f k l m) r ∧ r.length ≤ 2000 := by
  unfold spec_StreamBytes.f impl_StreamBytes.f
  have hv := validOps_ev l (by omega)
  have hv' := implValidOps_ev l (by omega)
  have st : ∀ b : Bool, b = true → Ev (fun k => spec_StreamBytes.j0 k l m b) [] := fun b hb => by
    refine Ev.step (fun k => by simp only [spec_StreamBytes.j0]; exact rfl) ?_
    exact Ev.ite_pos hb (Ev.now _)
  have st' : ∀ b : Bool, b = true → Ev (fun k => impl_StreamBytes.j0 k l m b) [] := fun b hb => by
    refine Ev.step (fun k => by simp only [impl_StreamBytes.j0]; exact rfl) ?_
    exact Ev.ite_pos hb (Ev.now _)
  cases hb : vOps l with
  | false =>
    rw [hb] at hv hv'
    exact ⟨[], Ev.bind hv (Ev.ite_neg (by decide) (st true rfl)), Ev.bind hv' (Ev.ite_neg (by decide) (st' true rfl)), by simp⟩
  | true =>
    rw [hb] at hv hv'
    by_cases hm : 1 ≤ m ∧ m ≤ 200
    · obtain ⟨ps, p1, p2, p3, p4⟩ := splits l hb
      obtain ⟨r, h1, h2, h3⟩ := streams ps m p3 p4 ps.length 0 [] (by omega) (by omega) (by simp)
      refine ⟨r, Ev.bind hv (Ev.ite_pos rfl (Ev.bind0 (inRange_eq _ _ _) ?_)), Ev.bind hv' (Ev.ite_pos rfl (Ev.ite_neg (by omega) ?_)), h3⟩
      · refine Ev.step (fun k => by simp only [spec_StreamBytes.j0]; exact rfl) ?_
        exact Ev.ite_neg (by rw [decide_eq_true hm.1, decide_eq_true hm.2]; decide) (Ev.bind p1 h1)
      · refine Ev.step (fun k => by simp only [impl_StreamBytes.j0]; exact rfl) ?_
        exact Ev.ite_neg (by rw [decide_eq_false (by omega)]; decide) (Ev.bind p2 h2)
    · refine ⟨[], Ev.bind hv (Ev.ite_pos rfl (Ev.bind0 (inRange_eq _ _ _) (st _ ?_))), Ev.bind hv' (Ev.ite_pos rfl ?_), by simp⟩
      · have : (decide (1 ≤ m) && decide (m ≤ 200)) = false := by
          rw [Bool.and_eq_false_iff, decide_eq_false_iff_not, decide_eq_false_iff_not]
          omega
        rw [this]
        rfl
      · by_cases h1 : m < 1
        · exact Ev.ite_pos h1 (st' true rfl)
        · exact Ev.ite_neg h1 (st' _ (decide_eq_true (by omega)))

theorem FnExactStreamBytes : laws_FnExactStreamBytes.Pure := by
  intro l m ⟨hm, _⟩ _
  apply Ev.rounds
  unfold laws_FnExactStreamBytes.f
  refine Ev.bind0 (szOpS_eq l 1048576 (by omega) (by omega) hm) ?_
  by_cases h : (1048576 : Int) < l.length
  · rw [if_pos h]
    exact Ev.ite_pos (by omega) (Ev.now _)
  · rw [if_neg h]
    refine Ev.ite_neg (by omega) ?_
    have ht := toOpS_ev l (by omega)
    have hl : (l.map toOp).length ≤ 4611686018427387904 := by simp; omega
    obtain ⟨r, hs, hi, hb⟩ := both (l.map toOp) m (by simp; omega)
    have heq := eqIntS_same r (by omega)
    have hheld := heldIntS_ev r.length 1 (by omega) (by omega)
    refine Ev.bind ht (Ev.bind hs (Ev.bind ht (Ev.bind hi (Ev.bind heq (Ev.ite_pos rfl ?_)))))
    refine Ev.bind ht (Ev.bind (eqOpS_same _ hl) (Ev.ite_pos rfl ?_))
    refine Ev.bind (markOpS_ev _ 1 (by omega) (by simp; omega)) (Ev.ite_neg (by omega) (Ev.bind heq ?_))
    refine Ev.step (fun k => by simp only [laws_FnExactStreamBytes.j0]; exact rfl) ?_
    refine Ev.ite_neg (by decide) (Ev.bind (markIntS_ev r 1 (by omega) (by omega)) (Ev.bind hheld (Ev.ite_neg (by omega) (Ev.ite_pos rfl ?_))))
    exact Ev.bind ht (Ev.bind hi (Ev.bind heq (Ev.ite_pos rfl (Ev.bind hheld (Ev.ite_neg (by omega) (Ev.ite_pos rfl (Ev.now _)))))))
end Go.Proofs.Ytbokjhdhpmmpfaa.Pure
