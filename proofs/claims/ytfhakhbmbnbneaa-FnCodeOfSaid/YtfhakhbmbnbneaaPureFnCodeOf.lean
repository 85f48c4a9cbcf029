/- The code of a drawn graph is the code of its pruned graph, and begins with the kind and the value of the root: for every code of the draws, without a condition. -/
import Derived.Test.YtfhakhbmbnbneaaHdrawg
import Derived.Test.YtfhakhbmbnbneaaHcodepre
import Derived.Test.YtfhakhbmbnbneaaHeqs
import Derived.Test.YtfhakhbmbnbneaaQ13
import Derived.Test.YtfhakhbmbnbneaaQ42
import Derived.Test.YtfhakhbmbnbneaaQ44
import Derived.Test.YtfhakhbmbnbneaaQ57
import Derived.Test.YtfhakhbmbnbneaaQ76
namespace Go.Proofs.Ytfhakhbmbnbneaa.Pure
open Go.RowKit Go.Proofs.Ytfhakhbmbnbneaa.Q Go.Proofs.YtfhakhbmbnbneaaW.PrintWords
set_option linter.unusedVariables false
set_option linter.unusedSimpArgs false

theorem ev_mono {α : Type} {g : Nat → Option α} {r : α} (hm : ∀ k,LeO (g k) (g (k + 1))) {k0 : Nat} (h : g k0 = some r) : Ev g r := ⟨k0,fun k hk => by
 induction hk with
 | refl => exact h
 | step _ ih => exact hm _ _ ih⟩
theorem roots_one (k : Nat) (g : List Nd) (r : Int) (q : List Int) (h : impl_codesOf.f k g [r] = some q) : ∃ T,impl_codesOf.walk (k - 1) g r [] [] = some (q,T) := by
 unfold impl_codesOf.f at h
 cases k with
 | zero => simp [impl_codesOf.roots] at h
 | succ k =>
  simp only [impl_codesOf.roots] at h
  rw [if_pos (by simp),if_pos (by decide)] at h
  obtain ⟨b,h1,h2⟩ := Option.bind_eq_some_iff.1 h
  have e : rd [r] 0 = r := rfl
  rw [e] at h1
  cases k with
  | zero => simp [impl_codesOf.walk] at h1
  | succ k =>
   simp only [impl_codesOf.roots] at h2
   rw [if_neg (by simp [wrap64])] at h2
   cases h2
   exact ⟨b.2,h1⟩
theorem one_roots (k : Nat) (g : List Nd) (r : Int) (q : List Int) (T : List (Int × Int)) (h : impl_codesOf.walk k g r [] [] = some (q,T)) : impl_codesOf.f (k + 1) g [r] = some q := by
 unfold impl_codesOf.f
 cases k with
 | zero => simp [impl_codesOf.walk] at h
 | succ k =>
  simp only [impl_codesOf.roots]
  rw [if_pos (by simp),if_pos (by decide),show rd [r] 0 = r from rfl,h]
  simp only [Option.bind_some]
  rw [if_neg (by simp [wrap64])]

theorem FnCodeOf : laws_FnCodeOf.Pure := by
 intro l hm _ hw
 apply Ev.rounds
 unfold laws_FnCodeOf.f
 by_cases h : (l.length : Int) > 1048576
 ·exact Ev.ite_pos h (Ev.now _)
 refine Ev.ite_neg h ?_
 obtain ⟨c,hc,hcode⟩ := newReader_ev l hw
 obtain ⟨g,r,q0,hg,s1,s2,s3⟩ := anyGraph_ev c hcode 0 (by omega) (by omega)
 have hd : Ev (fun k => spec_DrawCodeOf.f k l) (g,r) := by
  unfold spec_DrawCodeOf.f
  exact Ev.bind0 hc (Ev.bind hg (Ev.now _))
 have hvs := spec_validGraph_ev g r (by omega) (fun x hx => by have := s3 x hx;omega)
 have hvi := impl_ValidGraph_ev g r (by omega)
 cases hv : vGraph g r with
 | false =>
  rw [hv] at hvs hvi
  have hs : Ev (fun k => spec_CodeOf.f k g r) [] := by unfold spec_CodeOf.f;exact Ev.bind hvs (Ev.ite_neg (by decide) (Ev.now _))
  have hi : Ev (fun k => impl_CodeOf.f k g r) [] := by unfold impl_CodeOf.f;exact Ev.bind hvi (Ev.ite_neg (by decide) (Ev.now _))
  have he := equalInts_same [] (by simp)
  refine Ev.bind hd (Ev.bind hi (Ev.bind hs (Ev.bind he (Ev.ite_pos rfl ?_))))
  exact Ev.step (fun k => by simp only [laws_FnCodeOf.j0];rw [if_pos (by rfl)]) (Ev.bind hs (Ev.bind he (Ev.now _)))
 | true =>
  rw [hv] at hvs hvi
  obtain ⟨⟨p1,p2,p3,p4⟩,p5,p6,_⟩ := vGraph_parts hv
  obtain ⟨list,a1,a2,a3,a4,a5,a6,a7,a8,a9⟩ := reach_root g r p2 p5 p3 p4
  obtain ⟨q,b1,b2,b3⟩ := codeOf_both g r p2 p5 (leaf0_of p6) p3 p4
  have hs : Ev (fun k => spec_CodeOf.f k g r) q := by unfold spec_CodeOf.f;exact Ev.bind hvs (Ev.ite_pos rfl (Ev.bind b1 (Ev.now _)))
  have hi : Ev (fun k => impl_CodeOf.f k g r) q := by unfold impl_CodeOf.f;exact Ev.bind hvi (Ev.ite_pos rfl (Ev.bind b2 (Ev.now _)))
  have he := equalInts_same q (by omega)
  have hp : Ev (fun k => impl_PrunedGraph.f k g r) (prunedL g list,0) := by
   unfold impl_PrunedGraph.f
   exact Ev.bind hvi (Ev.ite_pos rfl (Ev.bind (impl_pruned_ev g r list p2 p5 a2 a3 a4 a5 a6) (Ev.now _)))
  have hroot : r ∈ list := by rw [← a8,getD_lt 0 a7];exact List.getElem_mem _
  have hz0 : placeOf list r = 0 := by
   have := placeOf_nth a4 a7
   rw [← getD_lt 0 a7,a8] at this
   exact this
  obtain ⟨K,hK⟩ := b2
  obtain ⟨T,hT⟩ := roots_one _ g r q (hK K (Nat.le_refl _))
  have hfirst := walk_first _ _ _ _ hT
  have hpl := ((walk_place a4 a6 _).1 r [] [] (q,T) hroot (fun a ha => by simp at ha) hT).1
  rw [hz0] at hpl
  have hpc : Ev (fun k => impl_codesOf.f k (prunedL g list) [0]) q := by
   have h2 := one_roots _ (prunedL g list) 0 q (byPlace list T) hpl
   exact ev_mono (fun k => impl_codesOf.mono (prunedL g list) [0] k) h2
  have hpv := pr_valid hv a4 a3 a7 a5 a6
  have hpi := impl_ValidGraph_ev (prunedL g list) 0 (by rw [prunedL_len];omega)
  rw [hpv] at hpi
  have hcp : Ev (fun k => impl_CodeOf.f k (prunedL g list) 0) q := by unfold impl_CodeOf.f;exact Ev.bind hpi (Ev.ite_pos rfl (Ev.bind hpc (Ev.now _)))
  obtain ⟨t,rfl⟩ := hfirst
  refine Ev.bind hd (Ev.bind hi (Ev.bind hs (Ev.bind he (Ev.ite_pos rfl ?_))))
  refine Ev.step (fun k => by simp only [laws_FnCodeOf.j0];rw [if_neg (by simp;omega)]) ?_
  refine Ev.bind hp (Ev.bind hcp (Ev.bind he (Ev.ite_pos rfl (Ev.ite_pos (by simp;omega) (Ev.ite_pos p3 (Ev.ite_pos p4 ?_))))))
  refine Ev.ite_pos (by rfl) (Ev.ite_pos (by simp;omega) ?_)
  exact Ev.at (Ev.now _) (by simp [rd,nd])
end Go.Proofs.Ytfhakhbmbnbneaa.Pure
