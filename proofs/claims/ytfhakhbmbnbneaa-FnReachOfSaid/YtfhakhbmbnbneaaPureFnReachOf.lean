/- What is reached from a drawn graph's root begins with the root, holds no node twice, is closed under kids, and each node behind the first is a kid of an earlier one: for every code of the draws, without a condition. -/
import Derived.Test.YtfhakhbmbnbneaaHdrawg
import Derived.Test.YtfhakhbmbnbneaaHreach
import Derived.Test.YtfhakhbmbnbneaaHeqs
import Derived.Test.YtfhakhbmbnbneaaQ26
import Derived.Test.YtfhakhbmbnbneaaQ33
import Derived.Test.YtfhakhbmbnbneaaQ35
import Derived.Test.YtfhakhbmbnbneaaQ9
namespace Go.Proofs.Ytfhakhbmbnbneaa.Pure
open Go.RowKit Go.Proofs.Ytfhakhbmbnbneaa.Q Go.Proofs.YtfhakhbmbnbneaaW.PrintWords
set_option linter.unusedVariables false
set_option linter.unusedSimpArgs false

theorem early_loop (g : List Nd) (r : Int) (q : List Int) (hq : q.length ≤ 12) (hr : ∀ x ∈ q,0 ≤ x ∧ x < (g.length : Int)) (hk : ∀ x ∈ q,(nd g x).f2.length ≤ 12) {i : Nat} (hi : i < q.length) (hE : i = 0 ∨ ∃ m,m < i ∧ q.getD i 0 ∈ (nd g (q.getD m 0)).f2) {z : Bool}
  (h : Ev (fun k => laws_FnReachOf.l0 k q ((i + 1 : Nat) : Int) g r) z) : Ev (fun k => laws_FnReachOf.l1 k q (i : Int) (decide (i = 0)) 0 g r) z := by
 have key : ∀ d j (met : Bool),i - j = d → j ≤ i → (met = true ∨ ∃ m,j ≤ m ∧ m < i ∧ q.getD i 0 ∈ (nd g (q.getD m 0)).f2) → Ev (fun k => laws_FnReachOf.l1 k q (i : Int) met (j : Int) g r) z := by
  intro d
  induction d with
  | zero =>
   intro j met hd hj hm
   have hmt : met = true := hm.resolve_right (fun ⟨m,h1,h2,_⟩ => by omega)
   subst hmt
   exact Ev.step (fun k => by simp only [laws_FnReachOf.l1];rw [if_neg (by omega),if_pos trivial,w64s hi (by omega)]) h
  | succ d ih =>
   intro j met hd hj hm
   have hjl : j < q.length := by omega
   have hin := hr _ (List.getElem_mem hjl)
   by_cases hmt : met = true
   ·subst hmt
    exact Ev.step (fun k => by simp only [laws_FnReachOf.l1];rw [if_pos (by omega),if_pos trivial,w64s (n := i) (by omega) (by omega)]) (ih (j + 1) true (by omega) (by omega) (.inl rfl))
   ·have h2 := isIn_ev (nd g q[j]).f2 (q.getD i 0) (by have := hk _ (List.getElem_mem hjl);omega)
    refine Ev.step (fun k => by simp only [laws_FnReachOf.l1];rw [if_pos (by omega),if_neg hmt,if_pos (by omega),if_pos (by omega),rdN,getD_lt 0 hjl,if_pos hin.1,if_pos hin.2,if_pos (by omega),if_pos (by omega),rdN,w64s (n := i) (by omega) (by omega)]) (Ev.bind h2 (ih (j + 1) _ (by omega) (by omega) ?_))
    rcases hm with hm | ⟨m,h1,h3,h4⟩
    ·exact absurd hm hmt
    ·by_cases hmj : m = j
     ·subst hmj
      rw [getD_lt 0 hjl] at h4
      exact .inl (decide_eq_true h4)
     ·exact .inr ⟨m,by omega,h3,h4⟩
 refine key _ 0 _ rfl (by omega) ?_
 rcases hE with hE | ⟨m,h1,h2⟩
 ·exact .inl (by simp [hE])
 ·exact .inr ⟨m,by omega,h1,h2⟩

theorem FnReachOf : laws_FnReachOf.Pure := by
 intro l hm _ hw
 apply Ev.rounds
 unfold laws_FnReachOf.f
 by_cases h : (l.length : Int) > 1048576
 ·exact Ev.ite_pos h (Ev.now _)
 refine Ev.ite_neg h ?_
 obtain ⟨c,hc,hcode⟩ := newReader_ev l hw
 obtain ⟨g,r,q,hg,s1,s2,s3⟩ := anyGraph_ev c hcode 0 (by omega) (by omega)
 have hd : Ev (fun k => spec_DrawReachOf.f k l) (g,r) := by
  unfold spec_DrawReachOf.f
  exact Ev.bind0 hc (Ev.bind hg (Ev.now _))
 have hvs := spec_validGraph_ev g r (by omega) (fun x hx => by have := s3 x hx;omega)
 have hvi := impl_ValidGraph_ev g r (by omega)
 cases hv : vGraph g r with
 | false =>
  rw [hv] at hvs hvi
  have hs : Ev (fun k => spec_ReachOf.f k g r) [] := by unfold spec_ReachOf.f;exact Ev.bind hvs (Ev.ite_neg (by decide) (Ev.now _))
  have hi : Ev (fun k => impl_ReachOf.f k g r) [] := by unfold impl_ReachOf.f;exact Ev.bind hvi (Ev.ite_neg (by decide) (Ev.now _))
  have he := equalInts_same [] (by simp)
  refine Ev.bind hd (Ev.bind hi (Ev.bind hs (Ev.bind he (Ev.ite_pos rfl ?_))))
  exact Ev.step (fun k => by simp only [laws_FnReachOf.j0];rw [if_pos (by rfl)]) (Ev.bind hs (Ev.bind he (Ev.now _)))
 | true =>
  rw [hv] at hvs hvi
  obtain ⟨⟨p1,p2,p3,p4⟩,p5,_⟩ := vGraph_parts hv
  obtain ⟨q,a1,a2,a3,a4,a5,a6,a7,a8,a9⟩ := reach_root g r p2 p5 p3 p4
  have hs : Ev (fun k => spec_ReachOf.f k g r) q := by unfold spec_ReachOf.f;exact Ev.bind hvs (Ev.ite_pos rfl (Ev.bind a1 (Ev.now _)))
  have hi : Ev (fun k => impl_ReachOf.f k g r) q := by unfold impl_ReachOf.f;exact Ev.bind hvi (Ev.ite_pos rfl (Ev.bind a2 (Ev.now _)))
  have he := equalInts_same q (by omega)
  refine Ev.bind hd (Ev.bind hi (Ev.bind hs (Ev.bind he (Ev.ite_pos rfl ?_))))
  have hne : ((q.length : Int) == 0) = false := by rw [beq_eq_false_iff_ne];omega
  refine Ev.step (fun k => by simp only [laws_FnReachOf.j0];rw [hne,if_neg (by decide)]) ?_
  refine ev_steps (L := fun k (_ : Unit) i => laws_FnReachOf.l0 k q i g r) (n := q.length) (fun _ => ()) (r := true) (fun i hi2 z hz => ?_) ?_
  ·have hmem : q[i] ∈ q := List.getElem_mem hi2
   have hin := a5 _ hmem
   have hkf : ∀ x ∈ q,(nd g x).f2.length ≤ 12 := fun x hx => by have := p5.few (a5 x hx).1 (a5 x hx).2;omega
   have hw2 := within_ev (nd g q[i]).f2 q (by have := hkf _ hmem;omega) (by omega) (fun x hx => a6 _ hmem x hx)
   have hni : q[i] ∉ q.take i := fun hx => by
    obtain ⟨j,hj,e⟩ := List.getElem_of_mem hx
    rw [List.length_take] at hj
    rw [List.getElem_take] at e
    exact List.pairwise_iff_getElem.1 a4 j i (by omega) hi2 (by omega) e
   have hin2 := isIn_ev (q.take i) q[i] (by rw [List.length_take];omega)
   rw [decide_eq_false hni] at hin2
   refine Ev.step (fun k => by simp only [laws_FnReachOf.l0];rw [if_pos (by omega),if_pos (by omega),rdN,getD_lt 0 hi2,if_pos hin.1,if_pos hin.2,show ((i : Int)).toNat = i from rfl]) ?_
   refine Ev.bind hw2 (Ev.ite_pos rfl (Ev.ite_pos (by omega) (Ev.bind hin2 ?_)))
   refine Ev.step (fun k => by simp only [laws_FnReachOf.j2];rw [if_neg (by decide)]) ?_
   have hz0 : ((i : Int) == 0) = decide (i = 0) := by
    by_cases h0 : i = 0
    ·simp [h0]
    ·rw [decide_eq_false h0,beq_eq_false_iff_ne];omega
   rw [hz0]
   refine early_loop g r q a3 a5 hkf hi2 ?_ hz
   by_cases h0 : i = 0
   ·exact .inl h0
   ·obtain ⟨m,hm1,hm2⟩ := a9 i (by omega) hi2
    exact .inr ⟨m,hm1,hm2⟩
  ·refine Ev.step (fun k => by simp only [laws_FnReachOf.l0];rw [if_neg (by omega),if_pos (by omega)]) (Ev.at (Ev.now _) ?_)
   rw [show rd q 0 = q.getD 0 0 from rfl,a8]
   simp
end Go.Proofs.Ytfhakhbmbnbneaa.Pure
