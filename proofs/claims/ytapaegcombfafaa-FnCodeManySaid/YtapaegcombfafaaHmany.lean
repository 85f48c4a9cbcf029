/- The code of several nodes of a graph, one after another, by both. -/
import Derived.Test.YtapaegcombfafaaHcode
import Derived.Test.YtapaegcombfafaaQ12
import Derived.Test.YtapaegcombfafaaQ41
import Derived.Test.YtapaegcombfafaaQ42
import Derived.Test.YtapaegcombfafaaQ44
namespace Go.Proofs.Ytapaegcombfafaa.Q
open Go.RowKit Go.Proofs.YtapaegcombfafaaW.PrintWords
set_option linter.unusedVariables false
set_option linter.unusedSimpArgs false

theorem many_both (g : List Nd) (r : Int) (roots : List Int) (hg : g.length ≤ 12) (hk : KidsIn g) (hl : Leaf0 g) (hn : roots.length ≤ 5) (hin : ∀ x ∈ roots,0 ≤ x ∧ x < (g.length : Int)) :
  ∃ q : List Int,Ev (fun k => spec_codeMany.f k g r roots) q ∧ Ev (fun k => impl_codesOf.f k g roots) q ∧ q.length ≤ 1000 := by
 have key : ∀ (e j : Nat) (o2 m2 : List Int) (T2 : List (Int × Int)),roots.length - j = e → j ≤ roots.length → TabOf m2 T2 → m2.length + free g.length m2 ≤ 12 → o2.length + 3 * (roots.length - j) + 18 * free g.length m2 ≤ 1000 →
   ∃ q : List Int,Ev (fun k => spec_codeMany.l0 k roots o2 m2 (j : Int) g r) q ∧ Ev (fun k => impl_codesOf.roots k g roots (j : Int) o2 T2) q ∧ q.length ≤ 1000 := by
  intro e
  induction e with
  | zero =>
   intro j o2 m2 T2 he hj hT2 hS2 hO2
   obtain rfl : j = roots.length := by omega
   refine ⟨o2,?_,?_,by omega⟩
   ·exact Ev.step (fun k => by simp only [spec_codeMany.l0];rw [if_neg (by omega)]) (Ev.now _)
   ·exact Ev.step (fun k => by simp only [impl_codesOf.roots];rw [if_neg (by omega)]) (Ev.now _)
  | succ e ihe =>
   intro j o2 m2 T2 he hj hT2 hS2 hO2
   have hjl : j < roots.length := by omega
   have hi := hin roots[j] (List.getElem_mem hjl)
   obtain ⟨r1,m1,T1,a1,a2,a3,a4,a5,a6⟩ := code_both g r hg hk hl _ roots[j] o2 m2 T2 rfl hi.1 hi.2 hT2 hS2 (by omega)
   obtain ⟨q,b1,b2,b3⟩ := ihe (j + 1) r1 m1 T1 (by omega) (by omega) a3 a5 (by omega)
   refine ⟨q,?_,?_,b3⟩
   ·refine Ev.step (fun k => by simp only [spec_codeMany.l0];rw [if_pos (show (j : Int) < (roots.length : Int) by omega),if_pos (by omega),rdN,getD_lt 0 hjl,w64s hjl (by omega)]) ?_
    exact Ev.bind a1 b1
   ·refine Ev.step (fun k => by simp only [impl_codesOf.roots];rw [if_pos (by omega),if_pos (by omega),rdN,getD_lt 0 hjl,w64s hjl (by omega)]) ?_
    exact Ev.bind a2 b2
 have hf := free_le g.length ([] : List Int)
 obtain ⟨q,a1,a2,a3⟩ := key _ 0 [] [] [] rfl (by omega) TabOf.nil (by rw [List.length_nil];omega) (by rw [List.length_nil];omega)
 refine ⟨q,?_,?_,a3⟩
 ·unfold spec_codeMany.f
  exact a1
 ·unfold impl_codesOf.f
  exact a2

/-- Do the roots stand in the graph? -/
def rootsB (g : List Nd) (roots : List Int) : Bool := roots.all (fun x => decide (0 ≤ x) && decide (x ≤ (g.length : Int) - 1))
theorem rootsB_bad (g : List Nd) (l : List Int) : (!(l.any (slices_ContainsFunc_int_int.bad (g.length : Int)))) = rootsB g l := by
 unfold rootsB
 rw [List.not_any_eq_all_not]
 congr 1
 funext x
 unfold slices_ContainsFunc_int_int.bad
 rw [Bool.eq_iff_iff]
 simp
 omega
theorem rootsB_in {g : List Nd} {l : List Int} (h : rootsB g l = true) : ∀ x ∈ l,0 ≤ x ∧ x < (g.length : Int) := by
 intro x hx
 unfold rootsB at h
 have := List.all_eq_true.1 h x hx
 simp only [Bool.and_eq_true,decide_eq_true_eq] at this
 omega

theorem codeMany_both (g : List Nd) (r : Int) (roots : List Int) (hg : g.length ≤ 1048576) (hk : ∀ x ∈ g,x.f2.length ≤ 1048576) (hR : roots.length ≤ 1048576) :
  ∃ q : List Int,Ev (fun k => spec_CodeMany.f k g r roots) q ∧ Ev (fun k => impl_CodeMany.f k g r roots) q ∧ q.length ≤ 1000 := by
 have hs := spec_validGraph_ev g r (by omega) (fun x hx => by have := hk x hx;omega)
 have hi := impl_ValidGraph_ev g r (by omega)
 unfold spec_CodeMany.f impl_CodeMany.f spec_validRoots.f impl_rootsOk.f
 cases hv : vGraph g r with
 | false =>
  rw [hv] at hs hi
  exact ⟨[],Ev.bind (Ev.bind hs (Ev.ite_neg (by decide) (Ev.now _))) (Ev.ite_neg (by decide) (Ev.now _)),Ev.bind (Ev.bind hi (Ev.ite_neg (by decide) (Ev.now _))) (Ev.ite_neg (by decide) (Ev.now _)),by simp⟩
 | true =>
  rw [hv] at hs hi
  obtain ⟨⟨p1,p2,p3,p4⟩,p5,p6,_⟩ := vGraph_parts hv
  by_cases h5 : (roots.length : Int) ≤ 5
  ·have hall := allIn_ev roots 0 (wrap64 ((g.length : Int) - 1)) (by omega)
   have e : (roots.all fun x => decide (0 ≤ x) && decide (x ≤ wrap64 ((g.length : Int) - 1))) = rootsB g roots := by
    rw [w64 (by omega)]
    rfl
   rw [e] at hall
   have hs2 : Ev (fun k => (spec_validGraph.f k g r).bind fun t => if t = true then (if (roots.length : Int) ≤ 5 then ((spec_allIn.f k roots 0 (wrap64 ((g.length : Int) - 1))).bind fun u => some u) else some false) else some false) (rootsB g roots) := Ev.bind hs (Ev.ite_pos rfl (Ev.ite_pos h5 (Ev.bind hall (Ev.now (rootsB g roots)))))
   have hi2 : Ev (fun k => (impl_ValidGraph.f k g r).bind fun t => if t = true then (if (roots.length : Int) ≤ 5 then some (!(roots.any (slices_ContainsFunc_int_int.bad (g.length : Int)))) else some false) else some false) (rootsB g roots) := by
    refine Ev.bind hi (Ev.ite_pos rfl (Ev.ite_pos h5 ?_))
    rw [rootsB_bad]
    exact Ev.now _
   cases hb : rootsB g roots with
   | false =>
    rw [hb] at hs2 hi2
    exact ⟨[],Ev.bind hs2 (Ev.ite_neg (by decide) (Ev.now _)),Ev.bind hi2 (Ev.ite_neg (by decide) (Ev.now _)),by simp⟩
   | true =>
    rw [hb] at hs2 hi2
    obtain ⟨q,a1,a2,a3⟩ := many_both g r roots p2 p5 (leaf0_of p6) (by omega) (rootsB_in hb)
    exact ⟨q,Ev.bind hs2 (Ev.ite_pos rfl (Ev.bind a1 (Ev.now _))),Ev.bind hi2 (Ev.ite_pos rfl (Ev.bind a2 (Ev.now _))),a3⟩
  ·exact ⟨[],Ev.bind (Ev.bind hs (Ev.ite_pos rfl (Ev.ite_neg h5 (Ev.now _)))) (Ev.ite_neg (by decide) (Ev.now _)),Ev.bind (Ev.bind hi (Ev.ite_pos rfl (Ev.ite_neg h5 (Ev.now _)))) (Ev.ite_neg (by decide) (Ev.now _)),by simp⟩
end Go.Proofs.Ytapaegcombfafaa.Q
